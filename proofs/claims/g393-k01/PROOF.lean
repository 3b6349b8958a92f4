import PyProof.Rows.All
import Wide.All
import OpenK.AllK
import Wide.FinOn
import HandS.ForMost
import HandS.Exc
import HandS.ExcOwn
import HandS.TryMany
import HandS.CallSlots
import HandS.Wide
import HandS.Deep
import HandS.TupAny
import HandS.Defaults
import HandS.WordsExc
import HandS.Flow
import HandS.TryOnly
import HandS.Style
import HandS.Zip
import HandS.IsInst
import HandS.WideMore
import HandS.SortInts
import HandS.Gcd
import HandS.More
import HandS.Lambda
import HandS.EndTab
import HandS.HeadWalk
import HandS.Slots
import HandS.SlotsOwn
import HandS.ClsMeth
import HandS.FStr
import HandS.Star
import HandS.Dict
import HandS.TupMul
import KE.GoesZip
import KE.GoesEnum
import HandS.Conv
import KE.KStateDown
import HandS.Ends
import HandS.Words
import HandS.Head0
import HandS.Head1
import HandS.Head2
import HandS.Head3
import HandS.HeadEnd
import HandS.HeadHook1
import HandS.HeadHook2
import HandS.HeadHook3
import HandS.HeadHook4
import HandS.EndBits
import KE.KFmtOwn
import PyProof.InstNe
import KE.KCallOwn
import KE.KRevSl
import HandS.Iter
import HandS.RaiseMore
import HandS.OwnEq
import HandS.SetFor
import KE.KTupSum
import HandS.DictComp
import HandS.SortOrd
import HandS.SortRule
import HandS.SortKw
import HandS.NamedTupSort
import KE.KSortTup
import HandS.IterVal
import HandS.AnyAll
import PyProof.GenCompT
import PyProof.Draws
import HandS.Strs
import KE.KDictPairs
import KE.KExcSuper
import KE.KExcInit
import HandS.ExcInit
import HandS.ExcField
import PyProof.ReprRoads
import HandS.ExcIs
import KE.GoesMore
import HandS.GenList
import PyProof.WalkInts
import PyProof.WalksMore
import PySem.Challenge.RW_arrowsizes_k01_whole_numbers_and_rows
set_option Elab.async false
set_option linter.all false
set_option maxRecDepth 100000
set_option maxHeartbeats 4000000
namespace Z
open PySem PySem.Spec PyProof.Rows L2

inductive D where
  | non | bl (b : Bool) | int (i : Int) | str (s : Str) | tup (ds : List D) | ref (i : Nat) | st (k : Nat) | ty (n : String) | fls (ds : List D)

inductive O where
  | lst (ds : List D)
  | dK (kvs : List (Key × D))
  | dT (kvs : List (List Key × D))
  | dQ (kvs : List (List Key × D))
  | qT (ks : List (List Key))
  | ins (c : Nat) (fs : List (Str × D))
  | slt (c : Nat) (vs : List (Option D))

abbrev Store := List O
abbrev St := L2.St
abbrev En := List (Option D)

structure Exn where
  cls : Nat
  fs : Option (List (Str × D))

inductive Res (α : Type) where
  | ok (a : α) (S : Store)
  | er (x : Exn) (S : Store)
  | bad

def Res.bind {α β : Type} (r : Res α) (f : α → Store → Res β) : Res β :=
  match r with
  | .ok a S => f a S
  | .er x S => .er x S
  | .bad => .bad

@[simp] theorem Res.bind_ok {α β : Type} (a : α) (S : Store) (f : α → Store → Res β) : (Res.ok a S).bind f = f a S := rfl
@[simp] theorem Res.bind_er {α β : Type} (x : Exn) (S : Store) (f : α → Store → Res β) : (Res.er x S : Res α).bind f = .er x S := rfl
@[simp] theorem Res.bind_bad {α β : Type} (f : α → Store → Res β) : (Res.bad : Res α).bind f = .bad := rfl

abbrev DE := En → Store → Res D
abbrev DT := En → Store → Res Bool
abbrev DA := En → Store → Res (List D)
inductive Fl where
  | nx (e : En) | rt (d : D) | bk (e : En) | ct (e : En)
abbrev DS := En → Store → Res Fl
abbrev Fn := List D → Store → Res D

structure Glo where
  P : Program
  w : World
  K : PySem.W.Frag
  mg : Str → Option Value
  base : Heap
  ad : Nat → Addr
  T : List (Addr × Str)

def FzL (K : PySem.W.Frag) (H : Hp) (a : Addr) (xs : List V) : Prop :=
  (∃ o, H a = some (.frz o (.lst xs))) ∨
    ∃ (o : Obj) (its : Array Value) (n : Nat), K.lookup a = some o ∧ o.cls = .type "list" ∧ o.dict = none ∧ o.data = .seq its n ∧ its.size ≤ sizeLine ∧ Vals xs its.toList
theorem FzL.sq {K : PySem.W.Frag} {H : Hp} {a : Addr} {xs : List V} (h : FzL K H a xs) : SqL K H a xs := by
  rcases h with ⟨o, h⟩ | h
  · exact .inl (.inr ⟨o, h⟩)
  · exact .inr h

mutual
def VRel (G : Glo) (φ : List Addr) (H : Hp) : D → V → Prop
  | .non, v => v = .non
  | .bl b, v => v = .bl b
  | .int i, v => v = .int i
  | .str s, v => v = .str s
  | .tup ds, v => ∃ a vs, v = .ref a ∧ SqT G.K H a vs ∧ VRels G φ H ds vs
  | .ref i, v => ∃ a, v = .ref a ∧ φ[i]? = some a
  | .st k, v => v = .ref (G.ad k)
  | .ty n, v => v = .ty n
  | .fls ds, v => ∃ a vs, v = .ref a ∧ FzL G.K H a vs ∧ VRels G φ H ds vs
def VRels (G : Glo) (φ : List Addr) (H : Hp) : List D → List V → Prop
  | [], vs => vs = []
  | d :: ds, vs => ∃ u us, vs = u :: us ∧ VRel G φ H d u ∧ VRels G φ H ds us
end

structure Grow (H H' : Hp) : Prop where
  tup : ∀ a xs, H a = some (.tup xs) → H' a = some (.tup xs)
  frz : ∀ a o u, H a = some (.frz o u) → H' a = some (.frz o u)
  xds : ∀ a fs, H a = some (.xd fs) → H' a = some (.xd fs)
  owns : ∀ a b, H a = some (.own b) → H' a = some (.own b) ∨ H' a = some (.xd [])
structure GrowW (H H' : Hp) : Prop where
  tup : ∀ a xs, H a = some (.tup xs) → H' a = some (.tup xs)
  frzT : ∀ a o xs, H a = some (.frz o (.tup xs)) → H' a = some (.frz o (.tup xs))
  frzL : ∀ a o xs, H a = some (.frz o (.lst xs)) → H' a = some (.frz o (.lst xs))
  xds : ∀ a fs, H a = some (.xd fs) → H' a = some (.xd fs)
  owns : ∀ a b, H a = some (.own b) → H' a = some (.own b) ∨ H' a = some (.xd [])
theorem Grow.w {H H' : Hp} (g : Grow H H') : GrowW H H' := ⟨g.tup, fun a o xs e => g.frz a o _ e, fun a o xs e => g.frz a o _ e, g.xds, g.owns⟩
theorem Grow.refl (H : Hp) : Grow H H := ⟨fun _ _ h => h, fun _ _ _ h => h, fun _ _ h => h, fun _ _ h => .inl h⟩
theorem Grow.trans {H H1 H2 : Hp} (a : Grow H H1) (b : Grow H1 H2) : Grow H H2 := ⟨fun c xs h => b.tup c xs (a.tup c xs h), fun c o u h => b.frz c o u (a.frz c o u h), fun c fs h => b.xds c fs (a.xds c fs h), fun c d h => (a.owns c d h).elim (fun z => b.owns c d z) fun z => .inr (b.xds c _ z)⟩
theorem Grow.new {H : Hp} {p : Addr} {o : HO} (h : H p = none) : Grow H (upd H p o) :=
  ⟨fun a xs e => by rw [upd_ne (ne_of_none e h)]; exact e, fun a o u e => by rw [upd_ne (ne_of_none e h)]; exact e, fun a fs e => by rw [upd_ne (ne_of_none e h)]; exact e, fun a b e => .inl (by rw [upd_ne (ne_of_none e h)]; exact e)⟩
theorem Grow.mut {H : Hp} {p : Addr} {o o' : HO} (h : H p = some o) (m : Mut (some o)) : Grow H (upd H p o') :=
  ⟨fun a xs e => by rw [upd_ne (fun z => by subst z; rw [h] at e; cases e; exact m)]; exact e, fun a ob u e => by rw [upd_ne (fun z => by subst z; rw [h] at e; cases e; exact m)]; exact e,
    fun a fs e => by rw [upd_ne (fun z => by subst z; rw [h] at e; cases e; exact m)]; exact e, fun a b e => .inl (by rw [upd_ne (fun z => by subst z; rw [h] at e; cases e; exact m)]; exact e)⟩
theorem GrowW.sqt {K : PySem.W.Frag} {H H' : Hp} (g : GrowW H H') {a : Addr} {xs : List V} (h : SqT K H a xs) : SqT K H' a xs := by
  rcases h with (h | ⟨o, h⟩) | h
  · exact .inl (.inl (g.tup _ _ h))
  · exact .inl (.inr ⟨o, g.frzT _ _ _ h⟩)
  · exact .inr h
theorem GrowW.fzl {K : PySem.W.Frag} {H H' : Hp} (g : GrowW H H') {a : Addr} {xs : List V} (h : FzL K H a xs) : FzL K H' a xs := by
  rcases h with ⟨o, h⟩ | h
  · exact .inl ⟨o, g.frzL _ _ _ h⟩
  · exact .inr h
theorem Grow.sqt {K : PySem.W.Frag} {H H' : Hp} (g : Grow H H') {a : Addr} {xs : List V} (h : SqT K H a xs) : SqT K H' a xs := g.w.sqt h
theorem Grow.fzl {K : PySem.W.Frag} {H H' : Hp} (g : Grow H H') {a : Addr} {xs : List V} (h : FzL K H a xs) : FzL K H' a xs := g.w.fzl h

def NT : HO → Prop
  | .tbl _ => False
  | _ => True
def Stdy : HO → Prop
  | .tbl _ => False
  | .own _ => False
  | _ => True
theorem Stdy.nt {o : HO} (h : Stdy o) : NT o := by cases o <;> first | trivial | exact h
structure Nxt (φ φ' : List Addr) (H H' : Hp) : Prop where
  ext : ∃ ψ, φ' = φ ++ ψ ∧ ∀ q ∈ ψ, ∀ o, H q = some o → ¬ NT o
  grow : Grow H H'
  frame : ∀ b o, H b = some o → b ∉ φ → Stdy o → H' b = some o
  there : ∀ b o, H b = some o → NT o → ∃ o', H' b = some o' ∧ NT o'
theorem Nxt.refl (φ : List Addr) (H : Hp) : Nxt φ φ H H := ⟨⟨[], by simp, fun _ z => nomatch z⟩, Grow.refl H, fun _ _ h _ _ => h, fun _ o h n => ⟨o, h, n⟩⟩
theorem Nxt.trans {φ φ1 φ2 : List Addr} {H H1 H2 : Hp} (a : Nxt φ φ1 H H1) (b : Nxt φ1 φ2 H1 H2) : Nxt φ φ2 H H2 := by
  obtain ⟨ψ, e, f⟩ := a.ext
  obtain ⟨ψ', e', f'⟩ := b.ext
  refine ⟨⟨ψ ++ ψ', by rw [e', e, List.append_assoc], fun q hq o h nt => ?_⟩, a.grow.trans b.grow, fun c o h n st => ?_, fun c o h nt => ?_⟩
  · rcases List.mem_append.mp hq with z | z
    · exact f q z o h nt
    · obtain ⟨o', h', nt'⟩ := a.there q o h nt
      exact f' q z o' h' nt'
  · refine b.frame c o (a.frame c o h n st) (fun z => ?_) st
    rw [e] at z
    rcases List.mem_append.mp z with z | z
    · exact n z
    · exact f c z o h st.nt
  · obtain ⟨o', h', nt'⟩ := a.there c o h nt
    exact b.there c o' h' nt'
theorem Nxt.at_ {φ φ' : List Addr} {H H' : Hp} (n : Nxt φ φ' H H') {i : Nat} {a : Addr} (h : φ[i]? = some a) : φ'[i]? = some a := by
  obtain ⟨ψ, e, _⟩ := n.ext
  rw [e, List.getElem?_append_left (List.getElem?_eq_some_iff.mp h).1]
  exact h
theorem Nxt.notin {φ φ' : List Addr} {H H' : Hp} (n : Nxt φ φ' H H') {p : Addr} {o : HO} (h : H p = some o) (hp : p ∉ φ) (nt : NT o := by trivial) : p ∉ φ' := by
  obtain ⟨ψ, e, f⟩ := n.ext
  rw [e]
  intro z
  rcases List.mem_append.mp z with z | z
  · exact hp z
  · exact f p z o h nt
theorem there_upd {H : Hp} {p : Addr} {o : HO} (nt : NT o) : ∀ b u, H b = some u → NT u → ∃ u', upd H p o b = some u' ∧ NT u' := fun b u h n => by
  by_cases hb : b = p
  · exact ⟨o, by rw [hb, upd_same], nt⟩
  · exact ⟨u, by rw [upd_ne hb]; exact h, n⟩
theorem Nxt.new {φ : List Addr} {H : Hp} {p : Addr} {o : HO} (h : H p = none) (nt : NT o := by trivial) : Nxt φ (φ ++ [p]) H (upd H p o) :=
  ⟨⟨[p], rfl, fun q z o e => by rw [List.mem_singleton.mp z, h] at e; cases e⟩, Grow.new h, fun b u e _ _ => by rw [upd_ne (ne_of_none e h)]; exact e, there_upd nt⟩
theorem Nxt.mute {φ : List Addr} {H : Hp} {p : Addr} {o : HO} (h : H p = none) (nt : NT o := by trivial) : Nxt φ φ H (upd H p o) :=
  ⟨⟨[], by simp, fun _ z => nomatch z⟩, Grow.new h, fun b u e _ _ => by rw [upd_ne (ne_of_none e h)]; exact e, there_upd nt⟩
theorem Nxt.mut {φ : List Addr} {H : Hp} {p : Addr} {o o' : HO} (h : H p = some o) (m : Mut (some o)) (hp : p ∈ φ) (nt : NT o' := by trivial) : Nxt φ φ H (upd H p o') :=
  ⟨⟨[], by simp, fun _ z => nomatch z⟩, Grow.mut h m, fun b u e n _ => by rw [upd_ne (show b ≠ p from fun z => n (by rw [z]; exact hp))]; exact e, there_upd nt⟩

mutual
theorem VRel.upW {G : Glo} {φ φ' : List Addr} {H H' : Hp} (f : ∀ (i : Nat) (a : Addr), φ[i]? = some a → φ'[i]? = some a) (g : GrowW H H') : ∀ {d : D} {v : V}, VRel G φ H d v → VRel G φ' H' d v
  | .non, _, h => by simpa [VRel] using h
  | .bl _, _, h => by simpa [VRel] using h
  | .int _, _, h => by simpa [VRel] using h
  | .str _, _, h => by simpa [VRel] using h
  | .tup ds, _, h => by
    simp only [VRel] at h ⊢
    obtain ⟨a, vs, e, s, r⟩ := h
    exact ⟨a, vs, e, g.sqt s, VRels.upW f g r⟩
  | .ref i, _, h => by
    simp only [VRel] at h ⊢
    obtain ⟨a, e, s⟩ := h
    exact ⟨a, e, f _ _ s⟩
  | .st _, _, h => by simpa [VRel] using h
  | .ty _, _, h => by simpa [VRel] using h
  | .fls ds, _, h => by
    simp only [VRel] at h ⊢
    obtain ⟨a, vs, e, s, r⟩ := h
    exact ⟨a, vs, e, g.fzl s, VRels.upW f g r⟩
theorem VRels.upW {G : Glo} {φ φ' : List Addr} {H H' : Hp} (f : ∀ (i : Nat) (a : Addr), φ[i]? = some a → φ'[i]? = some a) (g : GrowW H H') : ∀ {ds : List D} {vs : List V}, VRels G φ H ds vs → VRels G φ' H' ds vs
  | [], _, h => by simpa [VRels] using h
  | d :: ds, _, h => by
    simp only [VRels] at h ⊢
    obtain ⟨u, us, e, r, rs⟩ := h
    exact ⟨u, us, e, VRel.upW f g r, VRels.upW f g rs⟩
end
theorem VRel.up {G : Glo} {φ φ' : List Addr} {H H' : Hp} (f : ∀ (i : Nat) (a : Addr), φ[i]? = some a → φ'[i]? = some a) (g : Grow H H') {d : D} {v : V} (h : VRel G φ H d v) : VRel G φ' H' d v := h.upW f g.w
theorem VRels.up {G : Glo} {φ φ' : List Addr} {H H' : Hp} (f : ∀ (i : Nat) (a : Addr), φ[i]? = some a → φ'[i]? = some a) (g : Grow H H') {ds : List D} {vs : List V} (h : VRels G φ H ds vs) : VRels G φ' H' ds vs := h.upW f g.w
theorem VRel.nxt {G : Glo} {φ φ' : List Addr} {H H' : Hp} (n : Nxt φ φ' H H') {d : D} {v : V} (h : VRel G φ H d v) : VRel G φ' H' d v := h.up (fun _ _ => n.at_) n.grow
theorem VRels.nxt {G : Glo} {φ φ' : List Addr} {H H' : Hp} (n : Nxt φ φ' H H') {ds : List D} {vs : List V} (h : VRels G φ H ds vs) : VRels G φ' H' ds vs := h.up (fun _ _ => n.at_) n.grow
section
variable {G : Glo} {φ φ' : List Addr} {H H' : Hp}
theorem VRels.length : ∀ {ds : List D} {vs : List V}, VRels G φ H ds vs → ds.length = vs.length
  | [], _, h => by simp only [VRels] at h; rw [h]; rfl
  | d :: ds, _, h => by
    simp only [VRels] at h
    obtain ⟨u, us, e, _, rs⟩ := h
    rw [e, List.length_cons, List.length_cons, VRels.length rs]
theorem VRels.get : ∀ {ds : List D} {vs : List V} {i : Nat} {d : D}, VRels G φ H ds vs → ds[i]? = some d → ∃ v, vs[i]? = some v ∧ VRel G φ H d v
  | [], _, _, _, _, e => by simp at e
  | d :: ds, _, 0, _, h, e => by
    simp only [VRels] at h
    obtain ⟨u, us, e', r, _⟩ := h
    simp at e
    subst e e'
    exact ⟨u, rfl, r⟩
  | d :: ds, _, i + 1, _, h, e => by
    simp only [VRels] at h
    obtain ⟨u, us, e', _, rs⟩ := h
    subst e'
    obtain ⟨v, q, r⟩ := VRels.get (i := i) rs (by simpa using e)
    exact ⟨v, by simpa using q, r⟩
theorem VRels.cons {d : D} {v : V} {ds : List D} {vs : List V} (r : VRel G φ H d v) (rs : VRels G φ H ds vs) : VRels G φ H (d :: ds) (v :: vs) := by
  simp only [VRels]; exact ⟨v, vs, rfl, r, rs⟩
theorem VRels.nil : VRels G φ H [] [] := by simp only [VRels]
theorem VRels.append : ∀ {ds es : List D} {vs us : List V}, VRels G φ H ds vs → VRels G φ H es us → VRels G φ H (ds ++ es) (vs ++ us)
  | [], _, _, _, h, q => by simp only [VRels] at h; rw [h]; exact q
  | d :: ds, _, _, _, h, q => by
    simp only [VRels] at h
    obtain ⟨u, us, e, r, rs⟩ := h
    rw [e]
    exact VRels.cons r (VRels.append rs q)
theorem VRels.take : ∀ {ds : List D} {vs : List V} (n : Nat), VRels G φ H ds vs → VRels G φ H (ds.take n) (vs.take n)
  | _, _, 0, _ => by simp [VRels]
  | [], _, _ + 1, h => by simp only [VRels] at h; rw [h]; simp [VRels]
  | d :: ds, _, n + 1, h => by
    simp only [VRels] at h
    obtain ⟨u, us, e, r, rs⟩ := h
    rw [e, List.take_succ_cons, List.take_succ_cons]
    exact VRels.cons r (VRels.take n rs)
theorem VRels.drop : ∀ {ds : List D} {vs : List V} (n : Nat), VRels G φ H ds vs → VRels G φ H (ds.drop n) (vs.drop n)
  | _, _, 0, h => h
  | [], _, _ + 1, h => by simp only [VRels] at h; rw [h]; simp [VRels]
  | d :: ds, _, n + 1, h => by
    simp only [VRels] at h
    obtain ⟨u, us, e, r, rs⟩ := h
    rw [e, List.drop_succ_cons, List.drop_succ_cons]
    exact VRels.drop n rs
theorem VRels.set : ∀ {ds : List D} {vs : List V} {d : D} {v : V} (n : Nat), VRels G φ H ds vs → VRel G φ H d v → VRels G φ H (ds.set n d) (vs.set n v)
  | [], _, _, _, _, h, _ => by simp only [VRels] at h; rw [h]; simp [VRels]
  | d :: ds, _, _, _, 0, h, q => by
    simp only [VRels] at h
    obtain ⟨u, us, e, r, rs⟩ := h
    rw [e]
    exact VRels.cons q rs
  | d :: ds, _, _, _, n + 1, h, q => by
    simp only [VRels] at h
    obtain ⟨u, us, e, r, rs⟩ := h
    rw [e, List.set_cons_succ, List.set_cons_succ]
    exact VRels.cons r (VRels.set n rs q)
end

def KRel {κ : Type} (G : Glo) (φ : List Addr) (H : Hp) : List (κ × D) → List (κ × V) → Prop
  | [], ks => ks = []
  | (k, d) :: r, ks => ∃ v ks', ks = (k, v) :: ks' ∧ VRel G φ H d v ∧ KRel G φ H r ks'
theorem KRel.upW {κ : Type} {G : Glo} {φ φ' : List Addr} {H H' : Hp} (f : ∀ (i : Nat) (a : Addr), φ[i]? = some a → φ'[i]? = some a) (g : GrowW H H') : ∀ {l : List (κ × D)} {m : List (κ × V)}, KRel G φ H l m → KRel G φ' H' l m
  | [], _, h => h
  | (k, d) :: r, _, h => by
    obtain ⟨v, ks, e, q, t⟩ := h
    exact ⟨v, ks, e, q.upW f g, KRel.upW f g t⟩
theorem KRel.up {κ : Type} {G : Glo} {φ φ' : List Addr} {H H' : Hp} (f : ∀ (i : Nat) (a : Addr), φ[i]? = some a → φ'[i]? = some a) (g : Grow H H') {l : List (κ × D)} {m : List (κ × V)} (h : KRel G φ H l m) : KRel G φ' H' l m := h.upW f g.w
theorem KRel.nxt {κ : Type} {G : Glo} {φ φ' : List Addr} {H H' : Hp} (n : Nxt φ φ' H H') {l : List (κ × D)} {m : List (κ × V)} (h : KRel G φ H l m) : KRel G φ' H' l m := h.up (fun _ _ => n.at_) n.grow

def SRel (G : Glo) (φ : List Addr) (H : Hp) (vs : List (Option D)) (ws : List (Option V)) : Prop := ∀ (i : Nat) (d : D), vs[i]? = some (some d) → ∃ v, ws[i]? = some (some v) ∧ VRel G φ H d v
theorem SRel.upW {G : Glo} {φ φ' : List Addr} {H H' : Hp} (f : ∀ (i : Nat) (a : Addr), φ[i]? = some a → φ'[i]? = some a) (g : GrowW H H') {vs : List (Option D)} {ws : List (Option V)} (h : SRel G φ H vs ws) : SRel G φ' H' vs ws :=
  fun i d e => let ⟨v, q, r⟩ := h i d e; ⟨v, q, r.upW f g⟩
theorem SRel.up {G : Glo} {φ φ' : List Addr} {H H' : Hp} (f : ∀ (i : Nat) (a : Addr), φ[i]? = some a → φ'[i]? = some a) (g : Grow H H') {vs : List (Option D)} {ws : List (Option V)} (h : SRel G φ H vs ws) : SRel G φ' H' vs ws := h.upW f g.w
theorem Slt.upW {H H' : Hp} {a C dx : Addr} {ws : List (Option V)} (g : GrowW H H') (e : H' a = H a) (h : SlX.Slt H a C dx ws) : SlX.Slt H' a C dx ws := by
  rcases h with ⟨h1, h2⟩ | ⟨h1, h2⟩
  · exact .inl ⟨e.trans h1, h2⟩
  · exact .inr ⟨e.trans h1, g.xds _ _ h2⟩
theorem Slt.up {H H' : Hp} {a C dx : Addr} {ws : List (Option V)} (g : Grow H H') (e : H' a = H a) (h : SlX.Slt H a C dx ws) : SlX.Slt H' a C dx ws := Slt.upW g.w e h
def DxOk (H : Hp) (a dx : Addr) : Prop := H dx = some (.own a) ∨ H dx = some (.xd [])
theorem DxOk.upW {H H' : Hp} {a dx : Addr} (g : GrowW H H') (h : DxOk H a dx) : DxOk H' a dx := h.elim (fun z => g.owns _ _ z) fun z => .inr (g.xds _ _ z)
theorem DxOk.up {H H' : Hp} {a dx : Addr} (g : Grow H H') (h : DxOk H a dx) : DxOk H' a dx := h.upW g.w
theorem DxOk.ne {H : Hp} {a dx C : Addr} {ws : List (Option V)} (h : DxOk H a dx) (q : SlX.Slt H a C dx ws) : dx ≠ a := fun z => by
  subst z
  rcases q with ⟨q, _⟩ | ⟨q, _⟩ <;> rcases h with h | h <;> rw [h] at q <;> injection q with q <;> first | cases q | (unfold SlX.SlO at q; cases q)
def ORel (G : Glo) (φ : List Addr) (H : Hp) (a : Addr) : O → Prop
  | .lst ds => ∃ vs, H a = some (.lst vs) ∧ VRels G φ H ds vs
  | .dK kvs => ∃ kws, H a = some (.dK kws) ∧ KRel G φ H kvs kws
  | .dT kvs => ∃ od kws, H a = some (.frz od (.dK kws)) ∧ kws.map (·.1) = (kvs.map (·.1)).flatten
  | .dQ kvs => ∃ kws, H a = some (.dT kws) ∧ KRel G φ H kvs kws
  | .qT ks => ∃ od kws, H a = some (.frz od (.dT kws)) ∧ kws.map (·.1) = ks
  | .ins c fs => ∃ dx gs, H a = some (.ins (G.ad c) dx gs) ∧ KRel G φ H fs gs
  | .slt c vs => ∃ dx ws, SlX.Slt H a (G.ad c) dx ws ∧ DxOk H a dx ∧ SRel G φ H vs ws

def NX (p : Addr) : HO → Prop
  | .tbl _ => False
  | .ext f => ∀ q, HO.ext f ≠ LamX.CodeO p q
  | _ => True
theorem NX.nt {p : Addr} {o : HO} (h : NX p o) : NT o := by cases o <;> first | trivial | exact h
open LamX in
theorem tabs_upd {T : List (Addr × Str)} {H : Hp} {p : Addr} {u : HO} (t : Tabs T H) (h : ∀ o, H p = some o → NX p o) : Tabs T (upd H p u) := fun x hx => by
  obtain ⟨ps, h1, h2, h3⟩ := t x hx
  refine ⟨ps, ?_, h2, fun pos cv hc => ?_⟩
  · rw [upd_ne fun z => by rw [z] at h1; exact h _ h1]
    exact h1
  · obtain ⟨c, e1, e2⟩ := h3 pos cv hc
    refine ⟨c, e1, ?_⟩
    rw [upd_ne fun z => by subst z; exact h _ e2 _ rfl]
    exact e2
theorem slO_code {a C dx p : Addr} {vs : List (Option V)} {q : Str} : SlX.SlO a C dx vs ≠ LamX.CodeO p q := fun z => by
  unfold SlX.SlO LamX.CodeO at z
  injection z with z
  let o1 : Obj := { cls := .none, data := .fields #[.none, .str q 0] }
  let o2 : Obj := { cls := .none, data := .plain }
  by_cases hp : a = p
  · subst hp
    let h : Heap := { objs := Array.replicate (a + 1) o1, life := {} }
    have hg : h.get? a = some o1 := by
      show (match (Array.replicate (a + 1) o1)[a]? with
        | some ⟨_, _, .freed, _⟩ => none
        | o => o) = _
      rw [Array.getElem?_replicate, if_pos (Nat.lt_succ_self a)]
    have q2 : (∃ (oc : Obj) (vs : Array Value) (t : Tok), h.get? a = some oc ∧ oc.data = .fields vs ∧ vs[1]? = some (.str q t)) := ⟨o1, _, 0, hg, rfl, rfl⟩
    rw [← congrFun z h] at q2
    obtain ⟨sl, e, _⟩ := q2
    rw [hg] at e
    injection e with e
    injection e with _ _ e _
    cases e
  · let h : Heap := { objs := Array.replicate (p + a + 1) o1, life := {} }
    have hg : h.get? p = some o1 := by
      show (match (Array.replicate (p + a + 1) o1)[p]? with
        | some ⟨_, _, .freed, _⟩ => none
        | o => o) = _
      rw [Array.getElem?_replicate, if_pos (by omega)]
    have hga : h.get? a = some o1 := by
      show (match (Array.replicate (p + a + 1) o1)[a]? with
        | some ⟨_, _, .freed, _⟩ => none
        | o => o) = _
      rw [Array.getElem?_replicate, if_pos (by omega)]
    have q2 : (∃ (oc : Obj) (vs : Array Value) (t : Tok), h.get? p = some oc ∧ oc.data = .fields vs ∧ vs[1]? = some (.str q t)) := ⟨o1, _, 0, hg, rfl, rfl⟩
    rw [← congrFun z h] at q2
    obtain ⟨sl, e, _⟩ := q2
    rw [hga] at e
    injection e with e
    injection e with _ _ e _
    cases e
structure Rel (G : Glo) (φ : List Addr) (S : Store) (H : Hp) : Prop where
  len : φ.length = S.length
  nd : φ.Nodup
  at_ : ∀ (i : Nat) (a : Addr) (o : O), φ[i]? = some a → S[i]? = some o → ORel G φ H a o
  tabs : LamX.Tabs G.T H

def O.lk : O → Bool
  | .dT _ => true
  | .qT _ => true
  | _ => false
def Mt : HO → Prop
  | .lst _ => True
  | .dK _ => True
  | .dT _ => True
  | .set _ _ => True
  | .ins _ _ _ => True
  | .ext _ => True
  | .frz _ _ => True
  | _ => False
theorem ORel.mut_ {G : Glo} {φ : List Addr} {H : Hp} {a : Addr} {o : O} (h : ORel G φ H a o) : ∃ u, H a = some u ∧ Mt u ∧ NX a u := by
  cases o with
  | lst ds => obtain ⟨vs, e, _⟩ := h; exact ⟨_, e, trivial, trivial⟩
  | dK ds => obtain ⟨vs, e, _⟩ := h; exact ⟨_, e, trivial, trivial⟩
  | dT ds => obtain ⟨od, kws, e, _⟩ := h; exact ⟨_, e, trivial, trivial⟩
  | dQ ds => obtain ⟨vs, e, _⟩ := h; exact ⟨_, e, trivial, trivial⟩
  | qT ds => obtain ⟨od, kws, e, _⟩ := h; exact ⟨_, e, trivial, trivial⟩
  | ins c fs => obtain ⟨dx, vs, e, _⟩ := h; exact ⟨_, e, trivial, trivial⟩
  | slt c vs =>
    obtain ⟨dx, ws, h, _, _⟩ := h
    rcases h with ⟨h1, _⟩ | ⟨h1, _⟩
    · exact ⟨_, h1, trivial, trivial⟩
    · exact ⟨_, h1, trivial, fun q => slO_code⟩
theorem ORel.mut1 {G : Glo} {φ : List Addr} {H : Hp} {a : Addr} {o : O} (h : ORel G φ H a o) (hl : o.lk = false := by rfl) : ∃ u, H a = some u ∧ Mut (some u) ∧ NX a u := by
  cases o with
  | lst ds => obtain ⟨vs, e, _⟩ := h; exact ⟨_, e, trivial, trivial⟩
  | dK ds => obtain ⟨vs, e, _⟩ := h; exact ⟨_, e, trivial, trivial⟩
  | dT ds => cases hl
  | dQ ds => obtain ⟨vs, e, _⟩ := h; exact ⟨_, e, trivial, trivial⟩
  | qT ds => cases hl
  | ins c fs => obtain ⟨dx, vs, e, _⟩ := h; exact ⟨_, e, trivial, trivial⟩
  | slt c vs =>
    obtain ⟨dx, ws, h, _, _⟩ := h
    rcases h with ⟨h1, _⟩ | ⟨h1, _⟩
    · exact ⟨_, h1, trivial, trivial⟩
    · exact ⟨_, h1, trivial, fun q => slO_code⟩
theorem ORel.upW {G : Glo} {φ φ' : List Addr} {H H' : Hp} {a : Addr} {o : O} (f : ∀ (i : Nat) (a : Addr), φ[i]? = some a → φ'[i]? = some a) (g : GrowW H H') (e : H' a = H a) (h : ORel G φ H a o) : ORel G φ' H' a o := by
  cases o with
  | lst ds => obtain ⟨vs, q, r⟩ := h; exact ⟨vs, e.trans q, r.upW f g⟩
  | dK ds => obtain ⟨vs, q, r⟩ := h; exact ⟨vs, e.trans q, r.upW f g⟩
  | dT ds => obtain ⟨od, kws, q, r⟩ := h; exact ⟨od, kws, e.trans q, r⟩
  | dQ ds => obtain ⟨vs, q, r⟩ := h; exact ⟨vs, e.trans q, r.upW f g⟩
  | qT ds => obtain ⟨od, kws, q, r⟩ := h; exact ⟨od, kws, e.trans q, r⟩
  | ins c fs => obtain ⟨dx, vs, q, r⟩ := h; exact ⟨dx, vs, e.trans q, r.upW f g⟩
  | slt c vs => obtain ⟨dx, ws, q, k, r⟩ := h; exact ⟨dx, ws, Slt.upW g e q, k.upW g, r.upW f g⟩
theorem ORel.up {G : Glo} {φ φ' : List Addr} {H H' : Hp} {a : Addr} {o : O} (f : ∀ (i : Nat) (a : Addr), φ[i]? = some a → φ'[i]? = some a) (g : Grow H H') (e : H' a = H a) (h : ORel G φ H a o) : ORel G φ' H' a o := h.upW f g.w e
theorem ORel.nxt {G : Glo} {φ φ' : List Addr} {H H' : Hp} {a : Addr} {o : O} (n : Nxt φ φ' H H') (e : H' a = H a) (h : ORel G φ H a o) : ORel G φ' H' a o := h.up (fun _ _ => n.at_) n.grow e
section
variable {G : Glo} {φ : List Addr} {S : Store} {H : Hp}
theorem Rel.notmem (R : Rel G φ S H) {p : Addr} (h : H p = none) : p ∉ φ := fun hm => by
  obtain ⟨i, hi, e⟩ := List.mem_iff_getElem.mp hm
  have hi' : i < S.length := by rw [← R.len]; exact hi
  obtain ⟨u, q, _, _⟩ := (R.at_ i p S[i] (by rw [← e]; exact List.getElem?_eq_getElem hi) (List.getElem?_eq_getElem hi')).mut_
  rw [h] at q; cases q
theorem Rel.push {o : O} {u : HO} (R : Rel G φ S H) {p : Addr} (h : H p = none) (n : ORel G (φ ++ [p]) (upd H p u) p o) : Rel G (φ ++ [p]) (S ++ [o]) (upd H p u) ∧ Nxt φ (φ ++ [p]) H (upd H p u) := by
  have nx : Nxt φ (φ ++ [p]) H (upd H p u) := Nxt.new h (by obtain ⟨w, e, _, z⟩ := n.mut_; rw [upd_same] at e; cases e; exact z.nt)
  refine ⟨⟨by simp [R.len], ?_, fun i a ob e1 e2 => ?_, tabs_upd R.tabs fun o e => by rw [h] at e; cases e⟩, nx⟩
  · rw [List.nodup_append]
    exact ⟨R.nd, by simp, fun a ha b hb => by
      have : b = p := by simpa using hb
      subst this
      exact fun z => R.notmem h (z ▸ ha)⟩
  · by_cases hi : i < φ.length
    · rw [List.getElem?_append_left hi] at e1
      rw [List.getElem?_append_left (by rw [← R.len]; exact hi)] at e2
      have q := R.at_ i a ob e1 e2
      refine q.nxt nx (upd_ne ?_)
      intro z
      subst z
      exact R.notmem h (List.mem_of_getElem? e1)
    · rw [List.getElem?_append_right (by omega)] at e1
      rw [List.getElem?_append_right (by have := R.len; omega)] at e2
      have h0 : i - φ.length = 0 := by
        have := (List.getElem?_eq_some_iff.mp e1).1
        simp at this
        omega
      rw [h0] at e1
      rw [← R.len, h0] at e2
      simp at e1 e2
      subst e1 e2
      exact n
theorem Rel.mute (R : Rel G φ S H) {p : Addr} {u : HO} (h : p ∉ φ) (g : Grow H (upd H p u)) (hx : ∀ o, H p = some o → NX p o) : Rel G φ S (upd H p u) :=
  ⟨R.len, R.nd, fun i a o e1 e2 => (R.at_ i a o e1 e2).up (fun _ _ q => q) g (upd_ne fun z => h (z ▸ List.mem_of_getElem? e1)), tabs_upd R.tabs hx⟩
theorem nx_none {H : Hp} {p : Addr} (h : H p = none) : ∀ o, H p = some o → NX p o := fun o e => by rw [h] at e; cases e
theorem nx_some {H : Hp} {p : Addr} {u : HO} (h : H p = some u) (n : NX p u := by trivial) : ∀ o, H p = some o → NX p o := fun o e => by rw [h] at e; cases e; exact n
theorem Rel.adopt {o : O} (R : Rel G φ S H) {p : Addr} (h : p ∉ φ) (n : ORel G (φ ++ [p]) H p o) : Rel G (φ ++ [p]) (S ++ [o]) H := by
  have f : ∀ (i : Nat) (a : Addr), φ[i]? = some a → (φ ++ [p])[i]? = some a := fun i a e => by rw [List.getElem?_append_left (List.getElem?_eq_some_iff.mp e).1]; exact e
  refine ⟨by simp [R.len], ?_, fun i a ob e1 e2 => ?_, R.tabs⟩
  · rw [List.nodup_append]
    exact ⟨R.nd, by simp, fun a ha b hb => by
      have : b = p := by simpa using hb
      subst this
      exact fun z => h (z ▸ ha)⟩
  · by_cases hi : i < φ.length
    · rw [List.getElem?_append_left hi] at e1
      rw [List.getElem?_append_left (by rw [← R.len]; exact hi)] at e2
      exact (R.at_ i a ob e1 e2).up f (Grow.refl H) rfl
    · rw [List.getElem?_append_right (by omega)] at e1
      rw [List.getElem?_append_right (by have := R.len; omega)] at e2
      have h0 : i - φ.length = 0 := by
        have := (List.getElem?_eq_some_iff.mp e1).1
        simp at this
        omega
      rw [h0] at e1
      rw [← R.len, h0] at e2
      simp at e1 e2
      subst e1 e2
      exact n
theorem Rel.set {i : Nat} {a : Addr} {o o' : O} {u : HO} (R : Rel G φ S H) (h1 : φ[i]? = some a) (h2 : S[i]? = some o) (n : ORel G φ (upd H a u) a o') (hl : o.lk = false := by rfl) : Rel G φ (S.set i o') (upd H a u) ∧ Nxt φ φ H (upd H a u) := by
  obtain ⟨w, hw, mw, xw⟩ := (R.at_ i a o h1 h2).mut1 hl
  have nx : Nxt φ φ H (upd H a u) := Nxt.mut hw mw (List.mem_of_getElem? h1) (by obtain ⟨w, e, _, z⟩ := n.mut_; rw [upd_same] at e; cases e; exact z.nt)
  refine ⟨⟨by simp [R.len], R.nd, fun j b ob e1 e2 => ?_, tabs_upd R.tabs (nx_some hw xw)⟩, nx⟩
  by_cases hj : j = i
  · subst hj
    rw [h1] at e1; cases e1
    have hl : j < S.length := (List.getElem?_eq_some_iff.mp h2).1
    rw [List.getElem?_set_self hl] at e2
    cases e2
    exact n
  · rw [List.getElem?_set_ne (Ne.symm hj)] at e2
    refine (R.at_ j b ob e1 e2).nxt nx (upd_ne ?_)
    intro z
    subst z
    exact hj ((List.getElem?_inj (List.getElem?_eq_some_iff.mp e1).1 R.nd).mp (e1.trans h1.symm))
end

def ERel (G : Glo) (φ : List Addr) (H : Hp) (env : En) (σ : St) : Prop := env.length = σ.length ∧ ∀ (i : Nat) (d : D), env[i]? = some (some d) → ∃ v, σ[i]? = some (some v) ∧ VRel G φ H d v
theorem ERel.nxt {G : Glo} {φ φ' : List Addr} {H H' : Hp} {env : En} {σ : St} (n : Nxt φ φ' H H') (h : ERel G φ H env σ) : ERel G φ' H' env σ :=
  ⟨h.1, fun i d e => let ⟨v, q, r⟩ := h.2 i d e; ⟨v, q, r.nxt n⟩⟩
theorem ERel.up {G : Glo} {φ φ' : List Addr} {H H' : Hp} {env : En} {σ : St} (f : ∀ (i : Nat) (a : Addr), φ[i]? = some a → φ'[i]? = some a) (g : Grow H H') (h : ERel G φ H env σ) : ERel G φ' H' env σ :=
  ⟨h.1, fun i d e => let ⟨v, q, r⟩ := h.2 i d e; ⟨v, q, r.up f g⟩⟩
theorem ERel.set {G : Glo} {φ : List Addr} {H : Hp} {env : En} {σ : St} {i : Nat} {d : D} {v : V} (h : ERel G φ H env σ) (r : VRel G φ H d v) : ERel G φ H (env.set i (some d)) (σ.set i (some v)) := by
  refine ⟨by simp [h.1], fun j e q => ?_⟩
  by_cases hj : i = j
  · subst hj
    by_cases hi : i < env.length
    · rw [List.getElem?_set_self hi] at q
      cases q
      exact ⟨v, by rw [List.getElem?_set_self (by rw [← h.1]; exact hi)], r⟩
    · rw [List.getElem?_eq_none (by simpa using hi)] at q
      cases q
  · rw [List.getElem?_set_ne hj] at q ⊢
    exact h.2 j e q
theorem ERel.unset {G : Glo} {φ : List Addr} {H : Hp} {env : En} {σ : St} {i : Nat} {v : Option V} (h : ERel G φ H env σ) : ERel G φ H (env.set i none) (σ.set i v) := by
  refine ⟨by simp [h.1], fun j e q => ?_⟩
  by_cases hj : i = j
  · subst hj
    by_cases hi : i < env.length
    · rw [List.getElem?_set_self hi] at q
      cases q
    · rw [List.getElem?_eq_none (by simpa using hi)] at q
      cases q
  · rw [List.getElem?_set_ne hj] at q ⊢
    exact h.2 j e q

def XRel (G : Glo) (φ : List Addr) (H : Hp) (x : Exn) (cls : Value) (dd : Option Addr) : Prop :=
  cls = .ref (G.ad x.cls) ∧ match x.fs with
    | none => dd = none
    | some fs => ∃ p gs, dd = some p ∧ H p = some (.xd gs) ∧ KRel G φ H fs gs

def Pst {α : Type} (G : Glo) (B : Value → Option Addr → Hp → Prop) (φ : List Addr) (H : Hp) (K : List Addr → Hp → Store → α → Prop) : Res α → Prop
  | .ok a S' => ∀ φ' H', Nxt φ φ' H H' → Rel G φ' S' H' → K φ' H' S' a
  | .er x S' => ∀ φ' H', Nxt φ φ' H H' → Rel G φ' S' H' → ∀ cls dd, XRel G φ' H' x cls dd → B cls dd H'
  | .bad => False
section
variable {α β : Type} {G : Glo} {B : Value → Option Addr → Hp → Prop} {φ φ1 : List Addr} {H H1 : Hp}
theorem Pst.bind {K : List Addr → Hp → Store → β → Prop} {r : Res α} {f : α → Store → Res β} (h : Pst G B φ H K (r.bind f)) : Pst G B φ H (fun φ1 H1 S1 a => Pst G B φ1 H1 K (f a S1)) r := by
  cases r with
  | ok a S =>
    intro φ1 H1 n1 R1
    have h' : Pst G B φ H K (f a S) := h
    show Pst G B φ1 H1 K (f a S)
    cases e : f a S with
    | ok b S2 => rw [e] at h'; exact fun φ2 H2 n2 R2 => h' φ2 H2 (n1.trans n2) R2
    | er x S2 => rw [e] at h'; exact fun φ2 H2 n2 R2 => h' φ2 H2 (n1.trans n2) R2
    | bad => rw [e] at h'; exact h'
  | er x S => exact h
  | bad => exact h
theorem Pst.imp {K K' : List Addr → Hp → Store → α → Prop} {r : Res α} (h : Pst G B φ H K r) (k : ∀ φ1 H1 S1 a, Nxt φ φ1 H H1 → Rel G φ1 S1 H1 → K φ1 H1 S1 a → K' φ1 H1 S1 a) : Pst G B φ H K' r := by
  cases r with
  | ok a S => exact fun φ1 H1 n1 R1 => k φ1 H1 S a n1 R1 (h φ1 H1 n1 R1)
  | er x S => exact h
  | bad => exact h
theorem Pst.nxt {K : List Addr → Hp → Store → α → Prop} {r : Res α} (h : Pst G B φ H K r) (n : Nxt φ φ1 H H1) : Pst G B φ1 H1 K r := by
  cases r with
  | ok a S => exact fun φ2 H2 n2 R2 => h φ2 H2 (n.trans n2) R2
  | er x S => exact fun φ2 H2 n2 R2 => h φ2 H2 (n.trans n2) R2
  | bad => exact h
theorem Pst.now {K : List Addr → Hp → Store → α → Prop} {a : α} {S : Store} (h : Pst G B φ H K (.ok a S)) (R : Rel G φ S H) : K φ H S a := h φ H (Nxt.refl φ H) R
end

def rdE (G : Glo) (W : WX) (d : DE) : TE := fun σ H Q => ∃ φ S env, Rel G φ S H ∧ ERel G φ H env σ ∧ Pst G (fun c p H' => W c p σ H') φ H (fun φ' H' _ x => ∀ v, VRel G φ' H' x v → Q v H') (d env S)
def rdT (G : Glo) (W : WX) (d : DT) : TT := fun σ H Q => ∃ φ S env, Rel G φ S H ∧ ERel G φ H env σ ∧ Pst G (fun c p H' => W c p σ H') φ H (fun _ H' _ b => Q b H') (d env S)
def rdA (G : Glo) (W : WX) (d : DA) : TA := fun σ H Q => ∃ φ S env, Rel G φ S H ∧ ERel G φ H env σ ∧ Pst G (fun c p H' => W c p σ H') φ H (fun φ' H' _ xs => ∀ vs, VRels G φ' H' xs vs → Q vs H') (d env S)
def FlP (G : Glo) (D : Ends) (φ : List Addr) (H : Hp) : Fl → Prop
  | .nx e => ∀ σ, ERel G φ H e σ → D.nx σ H
  | .rt d => ∀ v, VRel G φ H d v → D.rt v H
  | .bk e => ∀ σ, ERel G φ H e σ → D.bk σ H
  | .ct e => ∀ σ, ERel G φ H e σ → D.ct σ H
def rdS (G : Glo) (W : WX) (d : DS) : TS := fun D σ H => ∃ φ S env, Rel G φ S H ∧ ERel G φ H env σ ∧ Pst G (fun c p H' => ∀ σ', W c p σ' H') φ H (fun φ' H' _ f => FlP G D φ' H' f) (d env S)

structure Cp where
  G : Glo
  k : Nat
  N : List Str
  sc : Scope
  fn : Str → Bool
  cq : Option (Str × Addr)
  gd : Bool
structure Cxt (C : Cp) (W : WX) (X : Cx) : Prop where
  prog : X.prog = C.G.P
  w : X.w = C.G.w
  K : X.K = C.G.K
  mg : X.mg = C.G.mg
  base : X.base = C.G.base
  N : X.N = C.N
  sc : X.env.scope = C.sc
  fn : X.fn = C.fn
  room : Room C.k X.A
  calm : X.calm = true
  takes : Takes X W
  pass : PassesOwn (model X.prog X.w) X.A X.env X.xe
  cd : ∀ (q : Str) (c : Addr), C.cq = some (q, c) → X.env.qual = q ∧ X.env.code = .ref c
  gd : C.gd = true → X.A.guards = some []
  ind : ∀ (cls : Value) (d : Option Addr) (σ σ' : St) (H : Hp), W cls d σ H → W cls d σ' H

def PEx (C : Cp) (e : Expr) (d : DE) : Prop := ∀ X W, Cxt C W X → PE X e (rdE C.G W d)
def PTx (C : Cp) (e : Expr) (d : DT) : Prop := ∀ X W, Cxt C W X → PT X e (rdT C.G W d)
def PAx (C : Cp) (es : List Expr) (d : DA) : Prop := ∀ X W, Cxt C W X → PA X es (rdA C.G W d)
def PSx (C : Cp) (st : Stmt) (d : DS) : Prop := ∀ X W, Cxt C W X → PS X st (rdS C.G W d)
def PSsx (C : Cp) (st : List Stmt) (d : DS) : Prop := ∀ X W, Cxt C W X → PSs X st (rdS C.G W d)

theorem pe_imp {X : Cx} {e : Expr} {t t' : TE} (h : PE X e t) (k : ∀ σ H Q, t' σ H Q → t σ H Q) : PE X e t' := ⟨fun pins s σ H Q I q => h.run pins s σ H Q I (k σ H Q q)⟩
theorem pt_imp {X : Cx} {e : Expr} {t t' : TT} (h : PT X e t) (k : ∀ σ H Q, t' σ H Q → t σ H Q) : PT X e t' := ⟨fun pins s σ H Q I q => h.run pins s σ H Q I (k σ H Q q)⟩
theorem pa_imp {X : Cx} {es : List Expr} {t t' : TA} (h : PA X es t) (k : ∀ σ H Q, t' σ H Q → t σ H Q) : PA X es t' := ⟨fun pos pins s σ H Q I q => h.run pos pins s σ H Q I (k σ H Q q)⟩
theorem ps_imp {X : Cx} {st : Stmt} {t t' : TS} (h : PS X st t) (k : ∀ D σ H, t' D σ H → t D σ H) : PS X st t' := ⟨fun pins s σ H D I q => h.run pins s σ H D I (k D σ H q)⟩
theorem pss_imp {X : Cx} {st : List Stmt} {t t' : TS} (h : PSs X st t) (k : ∀ D σ H, t' D σ H → t D σ H) : PSs X st t' := ⟨fun pins s σ H D I q => h.run pins s σ H D I (k D σ H q)⟩

def dC (d : D) : DE := fun _ S => .ok d S
def dVar (i : Nat) : DE := fun env S => match env[i]? with
  | some (some d) => .ok d S
  | _ => .bad
def visB (sc : Scope) (x : Str) : Bool := match sc.names.lookup x with
  | some .local => true
  | some .cell => true
  | some .free => true
  | _ => false
theorem visB_ok {sc : Scope} {x : Str} (h : visB sc x = true) : Vis sc x := by
  unfold visB at h
  split at h
  · exact .inl (by assumption)
  · exact .inr (.inl (by assumption))
  · exact .inr (.inr (by assumption))
  · cases h
section
variable {C : Cp} {pos : Pos}
theorem pex_var (i : Nat) {x : Str} (hN : C.N[i]? = some x) (hv : visB C.sc x = true) (hd : (x == ("__debug__" : Str)) = false := by decide +kernel) (hcd : (x == ("__classdict__" : Str)) = false := by decide +kernel) : PEx C (.Name x pos) (dVar i) := by
  intro X W h
  refine pe_imp (pe_var (X := X) (i := i) (by rw [h.N]; exact hN) (by rw [h.sc]; exact visB_ok hv) hd hcd) fun σ H Q ⟨φ, S, env, R, E, P⟩ => ?_
  unfold dVar at P
  split at P
  · rename_i d e
    obtain ⟨v, q, r⟩ := E.2 i d e
    exact ⟨v, q, P.now R v r⟩
  · exact P.elim
theorem pex_c {d : D} {v : V} {e : Expr} (h : ∀ X, PE X e (tC v)) (r : ∀ φ H, VRel C.G φ H d v) : PEx C e (dC d) := by
  intro X W hx
  refine pe_imp (h X) fun σ H Q ⟨φ, S, env, R, E, P⟩ => ?_
  exact Pst.now P R v (r φ H)
theorem pex_int {i : Int} {j} : PEx C (.Constant (.int i) j pos) (dC (.int i)) := pex_c (fun _ => pe_int) fun _ _ => by simp only [VRel]
theorem pex_bl {b : Bool} {j} : PEx C (.Constant (.bool b) j pos) (dC (.bl b)) := pex_c (fun _ => pe_bl) fun _ _ => by simp only [VRel]
theorem pex_non {j} : PEx C (.Constant .none j pos) (dC .non) := pex_c (fun _ => pe_non) fun _ _ => by simp only [VRel]
theorem pex_str {x : Str} {j} : PEx C (.Constant (.str x) j pos) (dC (.str x)) := pex_c (fun _ => pe_str) fun _ _ => by simp only [VRel]
end
end Z

namespace Z
open PySem PySem.Spec PyProof.Rows L2

abbrev Op2 := D → D → Store → Option (D × Store)
def PstV (G : Glo) (φ : List Addr) (H : Hp) (Q : VK) : Option (D × Store) → Prop
  | some (r, S') => ∀ φ' H', Nxt φ φ' H H' → Rel G φ' S' H' → ∀ v, VRel G φ' H' r v → Q v H'
  | none => False
def rdO (G : Glo) (op : Op2) : R2 := fun x y H Q => ∃ φ S d e, Rel G φ S H ∧ VRel G φ H d x ∧ VRel G φ H e y ∧ PstV G φ H Q (op d e S)
def OpRx (C : Cp) (f : Value → Value → Sem Value) (op : Op2) : Prop := ∀ X W, Cxt C W X → OpR X f (rdO C.G op)
abbrev Op1 := D → Store → Option (D × Store)
def rdU (G : Glo) (op : Op1) : V → Hp → VK → Prop := fun x H Q => ∃ φ S d, Rel G φ S H ∧ VRel G φ H d x ∧ PstV G φ H Q (op d S)
def UnRx (C : Cp) (f : Value → Sem Value) (op : Op1) : Prop := ∀ X W, Cxt C W X → UnR X f (rdU C.G op)

def ofO {α : Type} : Option (α × Store) → Res α
  | some (a, S) => .ok a S
  | none => .bad
@[simp] theorem ofO_some {α : Type} (a : α) (S : Store) : ofO (some (a, S)) = .ok a S := rfl
@[simp] theorem ofO_none {α : Type} : (ofO none : Res α) = .bad := rfl
theorem PstV.of {G : Glo} {B : Value → Option Addr → Hp → Prop} {φ : List Addr} {H : Hp} {Q : VK} {o : Option (D × Store)} (h : Pst G B φ H (fun φ' H' _ x => ∀ v, VRel G φ' H' x v → Q v H') (ofO o)) : PstV G φ H Q o := by
  cases o with
  | none => exact h
  | some p => obtain ⟨a, S⟩ := p; exact h
section
variable {G : Glo} {φ : List Addr} {H : Hp} {Q : VK}
theorem PstV.now {d : D} {S : Store} (h : PstV G φ H Q (some (d, S))) (R : Rel G φ S H) {v : V} (r : VRel G φ H d v) : Q v H := h φ H (Nxt.refl φ H) R v r
theorem PstV.lst {ds : List D} {S : Store} (h : PstV G φ H Q (some (.ref S.length, S ++ [.lst ds]))) (R : Rel G φ S H) {vs : List V} (r : VRels G φ H ds vs) {p : Addr} (hp : H p = none) : Q (.ref p) (upd H p (.lst vs)) := by
  obtain ⟨R', n⟩ := R.push (o := .lst ds) (u := .lst vs) hp ⟨vs, upd_same, r.nxt (Nxt.new hp)⟩
  refine h _ _ n R' _ ?_
  simp only [VRel]
  exact ⟨p, rfl, by rw [← R.len]; simp⟩
theorem PstV.tup {ds : List D} {S : Store} (h : PstV G φ H Q (some (.tup ds, S))) (R : Rel G φ S H) {vs : List V} (r : VRels G φ H ds vs) {p : Addr} (hp : H p = none) : Q (.ref p) (upd H p (.tup vs)) := by
  have n : Nxt φ φ H (upd H p (.tup vs)) := Nxt.mute hp
  refine h φ _ n (R.mute (R.notmem hp) n.grow (nx_none hp)) _ ?_
  simp only [VRel]
  exact ⟨p, vs, rfl, SqT.of upd_same, r.nxt n⟩
end
theorem sq_lst {G : Glo} {φ : List Addr} {S : Store} {H : Hp} (R : Rel G φ S H) {i : Nat} {ds : List D} {v : V} (h : VRel G φ H (.ref i) v) (e : S[i]? = some (.lst ds)) : ∃ a vs, v = .ref a ∧ H a = some (.lst vs) ∧ VRels G φ H ds vs ∧ φ[i]? = some a := by
  simp only [VRel] at h
  obtain ⟨a, ev, ha⟩ := h
  obtain ⟨vs, q, r⟩ := R.at_ i a _ ha e
  exact ⟨a, vs, ev, q, r, ha⟩

theorem OpRx.imp {C : Cp} {f : Value → Value → Sem Value} {op : Op2} (r : Cx → R2) (h : ∀ X W, Cxt C W X → OpR X f (r X)) (k : ∀ X W, Cxt C W X → ∀ φ S H d e x y Q, Rel C.G φ S H → VRel C.G φ H d x → VRel C.G φ H e y → PstV C.G φ H Q (op d e S) → r X x y H Q) : OpRx C f op :=
  fun X W hx pins s σ H x y v u Q I rx ry ⟨φ, S, d, e, R, r1, r2, P⟩ => h X W hx pins s σ H x y v u Q I rx ry (k X W hx φ S H d e x y Q R r1 r2 P)

def orO (a b : Op2) : Op2 := fun d e S => match a d e S with
  | some r => some r
  | none => b d e S
theorem OpRx.or {C : Cp} {f : Value → Value → Sem Value} {a b : Op2} (ha : OpRx C f a) (hb : OpRx C f b) : OpRx C f (orO a b) :=
  fun X W hx pins s σ H x y v u Q I rx ry ⟨φ, S, d, e, R, r1, r2, P⟩ => by
    unfold orO at P
    cases q : a d e S with
    | some r =>
      rw [q] at P
      exact ha X W hx pins s σ H x y v u Q I rx ry ⟨φ, S, d, e, R, r1, r2, by rw [q]; exact P⟩
    | none =>
      rw [q] at P
      exact hb X W hx pins s σ H x y v u Q I rx ry ⟨φ, S, d, e, R, r1, r2, P⟩

def oInt (c : Int → Int → Bool) (g : Int → Int → D) : Op2 := fun d e S => match d, e with
  | .int i, .int j => if c i j then some (g i j, S) else none
  | _, _ => none
theorem oInt_some {c : Int → Int → Bool} {g : Int → Int → D} {G : Glo} {φ : List Addr} {H : Hp} {Q : VK} {d e : D} {S : Store} (h : PstV G φ H Q (oInt c g d e S)) : ∃ i j, d = .int i ∧ e = .int j ∧ c i j = true ∧ PstV G φ H Q (some (g i j, S)) := by
  unfold oInt at h
  split at h
  · rename_i i j
    split at h
    · exact ⟨i, j, rfl, rfl, by assumption, h⟩
    · exact h.elim
  · exact h.elim
theorem opx_int {C : Cp} {f : Value → Value → Sem Value} {c : Int → Int → Bool} {cp : Int → Int → Prop} {g : Int → Int → D} {gv : Int → Int → V} (h : ∀ X W, Cxt C W X → OpR X f (rI cp gv)) (hc : ∀ i j, c i j = true → cp i j) (hg : ∀ i j φ H, VRel C.G φ H (g i j) (gv i j)) : OpRx C f (oInt c g) :=
  OpRx.imp (fun _ => rI cp gv) h fun X W hx φ S H d e x y Q R r1 r2 P => by
    obtain ⟨i, j, rfl, rfl, hcij, P⟩ := oInt_some P
    simp only [VRel] at r1 r2
    exact ⟨i, j, r1, r2, hc i j hcij, P.now R (hg i j φ H)⟩
theorem opx_int0 {C : Cp} {f : Value → Value → Sem Value} {g : Int → Int → D} {gv : Int → Int → V} (h : ∀ X W, Cxt C W X → OpR X f (rI0 gv)) (hg : ∀ i j φ H, VRel C.G φ H (g i j) (gv i j)) : OpRx C f (oInt (fun _ _ => true) g) :=
  OpRx.imp (fun _ => rI0 gv) h fun X W hx φ S H d e x y Q R r1 r2 P => by
    obtain ⟨i, j, rfl, rfl, hcij, P⟩ := oInt_some P
    simp only [VRel] at r1 r2
    exact ⟨i, j, r1, r2, P.now R (hg i j φ H)⟩
def oAddI : Op2 := oInt (fun _ _ => true) fun i j => .int (i + j)
def oSubI : Op2 := oInt (fun _ _ => true) fun i j => .int (i - j)
def mulOk (i j : Int) : Bool := decide (i.natAbs.log2 + j.natAbs.log2 < 1000000)
def oMulI : Op2 := oInt mulOk fun i j => .int (i * j)
def divOk (_ j : Int) : Bool := decide (0 < j) && decide (j.natAbs.log2 < 9000)
def oDivI : Op2 := oInt divOk fun i j => .int (i / j)
def oModI : Op2 := oInt (fun _ j => decide (0 < j)) fun i j => .int (i % j)
def powOk (i j : Int) : Bool := decide (0 ≤ j) && (decide (j ≤ 1000000) && decide (i.natAbs < 2 ^ 64))
def oPowI : Op2 := oInt powOk fun i j => .int (i ^ j.toNat)
def oLtI : Op2 := oInt (fun _ _ => true) fun i j => .bl (decide (i < j))
def oLeI : Op2 := oInt (fun _ _ => true) fun i j => .bl (decide (i ≤ j))
def oGtI : Op2 := oInt (fun _ _ => true) fun i j => .bl (decide (j < i))
def oGeI : Op2 := oInt (fun _ _ => true) fun i j => .bl (decide (j ≤ i))
section
variable {C : Cp}
theorem opx_addI : OpRx C (binaryOp .Add) oAddI := opx_int0 (fun _ _ _ => op_add) fun _ _ _ _ => by simp only [VRel]
theorem opx_subI : OpRx C (binaryOp .Sub) oSubI := opx_int0 (fun _ _ _ => op_sub) fun _ _ _ _ => by simp only [VRel]
theorem opx_mulI : OpRx C (binaryOp .Mult) oMulI := opx_int (fun _ _ _ => op_mulW) (fun i j h => of_decide_eq_true (p := i.natAbs.log2 + j.natAbs.log2 < 1000000) h) fun _ _ _ _ => by simp only [VRel]
theorem opx_divI : OpRx C (binaryOp .FloorDiv) oDivI := opx_int (fun _ _ _ => op_fdivW) (fun i j h => by
  obtain ⟨a, b⟩ := Bool.and_eq_true_iff.mp h
  exact ⟨of_decide_eq_true a, of_decide_eq_true b⟩) fun _ _ _ _ => by simp only [VRel]
theorem opx_modI : OpRx C (binaryOp .Mod) oModI := opx_int (fun _ _ _ => op_mod) (fun i j h => of_decide_eq_true h) fun _ _ _ _ => by simp only [VRel]
theorem opx_powI : OpRx C (binaryOp .Pow) oPowI := opx_int (fun _ _ _ => op_pow) (fun i j h => by
  obtain ⟨a, b⟩ := Bool.and_eq_true_iff.mp h
  obtain ⟨b, c⟩ := Bool.and_eq_true_iff.mp b
  exact ⟨of_decide_eq_true a, of_decide_eq_true b, of_decide_eq_true c⟩) fun _ _ _ _ => by simp only [VRel]
theorem opx_ltI : OpRx C (compareOp .Lt) oLtI := opx_int0 (fun _ _ _ => op_lt) fun _ _ _ _ => by simp only [VRel]
theorem opx_leI : OpRx C (compareOp .LtE) oLeI := opx_int0 (fun _ _ _ => op_le) fun _ _ _ _ => by simp only [VRel]
theorem opx_gtI : OpRx C (compareOp .Gt) oGtI := opx_int0 (fun _ _ _ => op_gt) fun _ _ _ _ => by simp only [VRel]
end

def sl : Nat := 16777216
theorem sl_eq : sizeLine = sl := sizeLine_eq
def oAddS : Op2 := fun d e S => match d, e with
  | .str x, .str y => if x.length + y.length ≤ sl then some (.str (x ++ y), S) else none
  | _, _ => none
theorem opx_addS {C : Cp} : OpRx C (binaryOp .Add) oAddS := OpRx.imp (fun _ => _) (fun _ _ _ => op_add_str) fun X W hx φ S H d e x y Q R r1 r2 P => by
  unfold oAddS at P
  split at P
  · split at P
    · simp only [VRel] at r1 r2
      exact ⟨_, _, r1, r2, by rw [sl_eq]; assumption, P.now R (by simp only [VRel])⟩
    · exact P.elim
  · exact P.elim
def oAddT : Op2 := fun d e S => match d, e with
  | .tup xs, .tup ys => if xs.length + ys.length ≤ sl then some (.tup (xs ++ ys), S) else none
  | _, _ => none
theorem opx_addT {C : Cp} : OpRx C (binaryOp .Add) oAddT := OpRx.imp (fun X => rCatA X.K) (fun _ _ _ => op_catA) fun X W hx φ S H d e x y Q R r1 r2 P => by
  unfold oAddT at P
  split at P
  · rename_i ds es
    split at P
    · have r1' := r1
      have r2' := r2
      simp only [VRel] at r1 r2
      obtain ⟨a, xs, rfl, h1, q1⟩ := r1
      obtain ⟨b, ys, rfl, h2, q2⟩ := r2
      rw [hx.K]
      refine ⟨a, b, xs, ys, rfl, rfl, h1, h2, by rw [sl_eq, ← q1.length, ← q2.length]; assumption, fun e => ?_, fun _ e => ?_, fun _ _ p hp => P.tup R (q1.append q2) hp⟩
      · have : ds = [] := List.length_eq_zero_iff.mp (by rw [q1.length, e]; rfl)
        subst this
        exact P.now R (by simpa using r2')
      · have : es = [] := List.length_eq_zero_iff.mp (by rw [q2.length, e]; rfl)
        subst this
        exact P.now R (by simpa using r1')
    · exact P.elim
  · exact P.elim
def oAddL : Op2 := fun d e S => match d, e with
  | .ref i, .ref j => match S[i]?, S[j]? with
    | some (.lst xs), some (.lst ys) => if xs.length + ys.length ≤ sl then some (.ref S.length, S ++ [.lst (xs ++ ys)]) else none
    | _, _ => none
  | _, _ => none
theorem opx_addL {C : Cp} : OpRx C (binaryOp .Add) oAddL := OpRx.imp (fun _ => rCat) (fun _ _ _ => op_cat) fun X W hx φ S H d e x y Q R r1 r2 P => by
  unfold oAddL at P
  split at P
  · split at P
    · rename_i xs ys e1 e2
      split at P
      · obtain ⟨a, vs, rfl, h1, q1, _⟩ := sq_lst R r1 e1
        obtain ⟨b, us, rfl, h2, q2, _⟩ := sq_lst R r2 e2
        exact ⟨a, b, vs, us, rfl, rfl, h1, h2, by rw [sl_eq, ← q1.length, ← q2.length]; assumption, fun p hp => P.lst R (q1.append q2) hp⟩
      · exact P.elim
    · exact P.elim
  · exact P.elim
def oAdd : Op2 := orO oAddI (orO oAddL (orO oAddT oAddS))
theorem opx_add {C : Cp} : OpRx C (binaryOp .Add) oAdd := opx_addI.or (opx_addL.or (opx_addT.or opx_addS))

theorem VRels.replicate {G : Glo} {φ : List Addr} {H : Hp} {ds : List D} {vs : List V} (h : VRels G φ H ds vs) : ∀ n : Nat, VRels G φ H (List.replicate n ds).flatten (List.replicate n vs).flatten
  | 0 => by simp [VRels]
  | n + 1 => by
    rw [List.replicate_succ, List.replicate_succ, List.flatten_cons, List.flatten_cons]
    exact h.append (VRels.replicate h n)
def oMulL : Op2 := fun d e S => match d, e with
  | .ref i, .int k => match S[i]? with
    | some (.lst xs) => if -(2 ^ 63) ≤ k ∧ k < 2 ^ 63 ∧ xs.length * k.toNat ≤ sl then some (.ref S.length, S ++ [.lst (List.replicate k.toNat xs).flatten]) else none
    | _ => none
  | _, _ => none
theorem opx_mulL {C : Cp} : OpRx C (binaryOp .Mult) oMulL := OpRx.imp (fun _ => rRep) (fun _ _ _ => op_rep) fun X W hx φ S H d e x y Q R r1 r2 P => by
  unfold oMulL at P
  split at P
  · split at P
    · rename_i xs e1
      split at P
      · rename_i hb
        obtain ⟨a, vs, rfl, h1, q1, _⟩ := sq_lst R r1 e1
        simp only [VRel] at r2
        subst r2
        exact ⟨a, _, vs, rfl, rfl, h1, hb.1, hb.2.1, by rw [sl_eq, ← q1.length]; exact hb.2.2, fun p hp => P.lst R (q1.replicate _) hp⟩
      · exact P.elim
    · exact P.elim
  · exact P.elim
def seqO {α : Type} : List (Option α) → Option (List α)
  | [] => some []
  | o :: os => match o with
    | some a => (seqO os).map (a :: ·)
    | none => none
def toPy (S : Store) : Nat → D → Option PyData
  | _, .non => some .none
  | _, .bl b => some (.bool b)
  | _, .int i => some (.int i)
  | _, .str x => if PyData.strOk x then some (.str x) else none
  | k + 1, .tup ds => (seqO (ds.map (toPy S k))).map .tuple
  | k + 1, .fls ds => (seqO (ds.map (toPy S k))).map .list
  | k + 1, .ref i => match S[i]? with
    | some (.lst ds) => (seqO (ds.map (toPy S k))).map .list
    | _ => none
  | _, _ => none
theorem seqO_cons {α : Type} {o : Option α} {os : List (Option α)} {l : List α} (h : seqO (o :: os) = some l) : ∃ a r, o = some a ∧ seqO os = some r ∧ l = a :: r := by
  unfold seqO at h
  split at h
  · rename_i a
    cases e : seqO os with
    | none => rw [e] at h; cases h
    | some r => rw [e] at h; exact ⟨a, r, rfl, rfl, (Option.some.inj h).symm⟩
  · cases h
theorem sq_any {G : Glo} {φ : List Addr} {S : Store} {H : Hp} (R : Rel G φ S H) {d : D} {v : V} (h : VRel G φ H d v) : ∀ {k : Nat} {p : PyData}, toPy S k d = some p → Dp G.K H v p ∧ p.depth ≤ k ∧ p.canLay0 = true := by
  intro k
  induction k generalizing d v with
  | zero =>
    intro p e
    cases d with
    | non => simp only [VRel] at h; subst h; cases e; exact ⟨.non, Nat.le_refl _, rfl⟩
    | bl b => simp only [VRel] at h; subst h; cases e; exact ⟨.bl b, Nat.le_refl _, rfl⟩
    | int i => simp only [VRel] at h; subst h; cases e; exact ⟨.int i, Nat.le_refl _, rfl⟩
    | str x =>
      simp only [VRel] at h; subst h
      simp only [toPy] at e
      split at e
      · cases e; exact ⟨.str x, Nat.le_refl _, by assumption⟩
      · cases e
    | tup ds => cases e
    | ref i => cases e
    | st i => cases e
    | ty n => cases e
    | fls ds => cases e
  | succ k ih =>
    intro p e
    have all : ∀ {ds : List D} {vs : List V} {ps : List PyData}, VRels G φ H ds vs → seqO (ds.map (toPy S k)) = some ps → DpAll G.K H vs ps ∧ PyData.depthAll ps ≤ k ∧ PyData.canLayAll0 ps = true := by
      intro ds
      induction ds with
      | nil =>
        intro vs ps r q
        simp only [VRels] at r
        subst r
        cases q
        exact ⟨.nil, Nat.zero_le _, rfl⟩
      | cons d ds ihd =>
        intro vs ps r q
        simp only [VRels] at r
        obtain ⟨u, us, rfl, ru, rs⟩ := r
        obtain ⟨a, r', e1, e2, rfl⟩ := seqO_cons (by simpa using q)
        obtain ⟨x1, x2, x3⟩ := ih ru e1
        obtain ⟨y1, y2, y3⟩ := ihd rs e2
        exact ⟨.cons x1 y1, by simp only [PyData.depthAll]; omega, by simp only [PyData.canLayAll0, x3, y3, Bool.and_self]⟩
    cases d with
    | non => simp only [VRel] at h; subst h; cases e; exact ⟨.non, Nat.zero_le _, rfl⟩
    | bl b => simp only [VRel] at h; subst h; cases e; exact ⟨.bl b, Nat.zero_le _, rfl⟩
    | int i => simp only [VRel] at h; subst h; cases e; exact ⟨.int i, Nat.zero_le _, rfl⟩
    | str x =>
      simp only [VRel] at h; subst h
      simp only [toPy] at e
      split at e
      · cases e; exact ⟨.str x, Nat.zero_le _, by assumption⟩
      · cases e
    | tup ds =>
      simp only [VRel] at h
      obtain ⟨a, vs, rfl, s, r⟩ := h
      simp only [toPy, Option.map_eq_some_iff] at e
      obtain ⟨ps, e, rfl⟩ := e
      obtain ⟨x1, x2, x3⟩ := all r e
      exact ⟨.tup s x1, by simp only [PyData.depth]; omega, by simpa only [PyData.canLay0] using x3⟩
    | ref i =>
      simp only [toPy] at e
      split at e
      · rename_i ds es
        obtain ⟨a, vs, rfl, q, r, _⟩ := sq_lst R h es
        simp only [Option.map_eq_some_iff] at e
        obtain ⟨ps, e, rfl⟩ := e
        obtain ⟨x1, x2, x3⟩ := all r e
        exact ⟨.lst (SqL.of q) x1, by simp only [PyData.depth]; omega, by simpa only [PyData.canLay0] using x3⟩
      · cases e
    | st i => cases e
    | ty n => cases e
    | fls ds =>
      simp only [VRel] at h
      obtain ⟨a, vs, rfl, s, r⟩ := h
      simp only [toPy, Option.map_eq_some_iff] at e
      obtain ⟨ps, e, rfl⟩ := e
      obtain ⟨x1, x2, x3⟩ := all r e
      exact ⟨.lst s.sq x1, by simp only [PyData.depth]; omega, by simpa only [PyData.canLay0] using x3⟩
theorem shaped_of {p : PyData} {k : Nat} (h : k ≤ 64) (h1 : p.depth ≤ k) (h2 : p.canLay0 = true) : SeqAt.shaped p = true := by
  unfold SeqAt.shaped
  rw [h2, decide_eq_true (Nat.le_trans h1 h)]
  rfl
def eqD (S : Store) (d e : D) : Option Bool := match toPy S 60 d, toPy S 60 e with
  | some p, some q => some (PyData.eqv p q)
  | _, _ => none
theorem eqD_some {S : Store} {d e : D} {b : Bool} (h : eqD S d e = some b) : ∃ p q, toPy S 60 d = some p ∧ toPy S 60 e = some q ∧ b = PyData.eqv p q := by
  unfold eqD at h
  split at h
  · rename_i p q e1 e2
    exact ⟨p, q, e1, e2, (Option.some.inj h).symm⟩
  · cases h
def oEq : Op2 := fun d e S => (eqD S d e).map fun b => (.bl b, S)
def oNe : Op2 := fun d e S => (eqD S d e).map fun b => (.bl (!b), S)
theorem opx_eq {C : Cp} : OpRx C (compareOp .Eq) oEq := OpRx.imp (fun X => rEqD X.K) (fun X W hx => op_eqD hx.room.units) fun X W hx φ S H d e x y Q R r1 r2 P => by
  unfold oEq at P
  cases q : eqD S d e with
  | none => rw [q] at P; exact P.elim
  | some b =>
    rw [q] at P
    obtain ⟨p, p', e1, e2, rfl⟩ := eqD_some q
    obtain ⟨x1, x2, x3⟩ := sq_any R r1 e1
    obtain ⟨y1, y2, y3⟩ := sq_any R r2 e2
    rw [hx.K]
    exact ⟨p, p', x1, y1, shaped_of (by decide) x2 x3, shaped_of (by decide) y2 y3, P.now R (by simp only [VRel])⟩
theorem opx_ne {C : Cp} : OpRx C (compareOp .NotEq) oNe := OpRx.imp (fun X => rNeD X.K) (fun X W hx => op_neD hx.room.units) fun X W hx φ S H d e x y Q R r1 r2 P => by
  unfold oNe at P
  cases q : eqD S d e with
  | none => rw [q] at P; exact P.elim
  | some b =>
    rw [q] at P
    obtain ⟨p, p', e1, e2, rfl⟩ := eqD_some q
    obtain ⟨x1, x2, x3⟩ := sq_any R r1 e1
    obtain ⟨y1, y2, y3⟩ := sq_any R r2 e2
    rw [hx.K]
    exact ⟨p, p', x1, y1, shaped_of (by decide) x2 x3, shaped_of (by decide) y2 y3, P.now R (by simp only [VRel])⟩
end Z

namespace Z
open PySem PySem.Spec PyProof.Rows L2

def dBin (op : Op2) (a b : DE) : DE := fun env S => (a env S).bind fun x S1 => (b env S1).bind fun y S2 => ofO (op x y S2)
def dUn (op : Op1) (a : DE) : DE := fun env S => (a env S).bind fun x S1 => ofO (op x S1)
section
variable {C : Cp} {a b c : Expr} {da db dc : DE} {pos : Pos}
theorem rd_bin {G : Glo} {W : WX} {op : Op2} {σ : St} {H : Hp} {Q : VK} (h : rdE G W (dBin op da db) σ H Q) : tOp (rdO G op) (rdE G W da) (rdE G W db) σ H Q := by
  obtain ⟨φ, S, env, R, E, P⟩ := h
  refine ⟨φ, S, env, R, E, P.bind.imp fun φ1 H1 S1 x n1 R1 P1 v1 r1 => ?_⟩
  refine ⟨φ1, S1, env, R1, E.nxt n1, P1.bind.imp fun φ2 H2 S2 y n2 R2 P2 v2 r2 => ?_⟩
  exact ⟨φ2, S2, x, y, R2, r1.nxt n2, r2, PstV.of P2⟩
theorem pex_op {o : Operator} {op : Op2} (ho : OpRx C (binaryOp o) op) (ha : PEx C a da) (hb : PEx C b db) : PEx C (.BinOp a o b pos) (dBin op da db) :=
  fun X W h => pe_imp (pe_op (ho X W h) (ha X W h) (hb X W h)) fun _ _ _ => rd_bin
theorem pex_cmp {o : CmpOp} {op : Op2} (ho : OpRx C (compareOp o) op) (ha : PEx C a da) (hb : PEx C b db) (hm : behindInMarks o b = false) : PEx C (.Compare a [o] [b] pos) (dBin op da db) :=
  fun X W h => pe_imp (pe_cmpR (ho X W h) (ha X W h) (hb X W h) hm) fun _ _ _ => rd_bin
theorem pex_un {o : UnaryOp} {op : Op1} (ho : UnRx C (unaryOp o) op) (ha : PEx C a da) : PEx C (.UnaryOp o a pos) (dUn op da) := fun X W h => by
  refine pe_imp (pe_un (ho X W h) (ha X W h)) fun σ H Q ⟨φ, S, env, R, E, P⟩ => ?_
  exact ⟨φ, S, env, R, E, P.bind.imp fun φ1 H1 S1 x n1 R1 P1 v1 r1 => ⟨φ1, S1, x, R1, r1, PstV.of P1⟩⟩
def oNeg : Op1 := fun d S => match d with
  | .int i => some (.int (-i), S)
  | _ => none
theorem unx_neg : UnRx C (unaryOp .USub) oNeg := fun X W hx pins s σ H x v Q I r ⟨φ, S, d, R, r1, P⟩ => by
  refine un_neg pins s σ H x v Q I r ?_
  unfold oNeg at P
  split at P
  · simp only [VRel] at r1
    exact ⟨_, r1, P.now R (by simp only [VRel])⟩
  · exact P.elim
def dChain (op op' : Op2) (a b c : DE) : DE := fun env S => (a env S).bind fun x S1 => (b env S1).bind fun y S2 => (ofO (op x y S2)).bind fun z S3 => match z with
  | .bl true => (c env S3).bind fun w S4 => ofO (op' y w S4)
  | .bl false => .ok (.bl false) S3
  | _ => .bad
theorem rd_chain {G : Glo} {W : WX} {op op' : Op2} {σ : St} {H : Hp} {Q : VK} (h : rdE G W (dChain op op' da db dc) σ H Q) : tChain (rdO G op) (rdO G op') (rdE G W da) (rdE G W db) (rdE G W dc) σ H Q := by
  obtain ⟨φ, S, env, R, E, P⟩ := h
  refine ⟨φ, S, env, R, E, P.bind.imp fun φ1 H1 S1 x n1 R1 P1 v1 r1 => ?_⟩
  refine ⟨φ1, S1, env, R1, E.nxt n1, P1.bind.imp fun φ2 H2 S2 y n2 R2 P2 v2 r2 => ?_⟩
  refine ⟨φ2, S2, x, y, R2, r1.nxt n2, r2, ?_⟩
  cases q : op x y S2 with
  | none => rw [q] at P2; exact P2
  | some p =>
    obtain ⟨z, S3⟩ := p
    rw [q] at P2
    intro φ3 H3 n3 R3 v3 r3
    have P3 := P2.bind φ3 H3 n3 R3
    cases z with
    | bl k =>
      simp only [VRel] at r3
      refine ⟨k, r3, ?_⟩
      cases k with
      | true =>
        refine iteT ?_
        refine ⟨φ3, S3, env, R3, E.nxt ((n1.trans n2).trans n3), Pst.bind (f := fun w S4 => ofO (op' y w S4)) P3 |>.imp fun φ4 H4 S4 w n4 R4 P4 v4 r4 => ?_⟩
        exact ⟨φ4, S4, y, w, R4, (r2.nxt n3).nxt n4, r4, PstV.of P4⟩
      | false => exact iteF (Pst.now P3 R3 _ (by simp only [VRel]))
    | _ => exact P3.elim
theorem pex_chain {o o' : CmpOp} {op op' : Op2} (ho : OpRx C (compareOp o) op) (ho' : OpRx C (compareOp o') op') (ha : PEx C a da) (hb : PEx C b db) (hc : PEx C c dc) (hm : lastMarks [o, o'] [b, c] = false) : PEx C (.Compare a [o, o'] [b, c] pos) (dChain op op' da db dc) :=
  fun X W h => pe_imp (pe_chain (ho X W h) (ho' X W h) (ha X W h) (hb X W h) (hc X W h) hm) fun _ _ _ => rd_chain
end

def truD : D → Store → Option Bool
  | .non, _ => some false
  | .bl b, _ => some b
  | .int i, _ => some (i != 0)
  | .str x, _ => if x.length ≤ sl then some ((x.length : Int) != 0) else none
  | .tup ds, _ => some (!ds.isEmpty)
  | .fls ds, _ => some (!ds.isEmpty)
  | .ref i, S => match S[i]? with
    | some (.lst ds) => some (!ds.isEmpty)
    | some (.dK kvs) => some (!kvs.isEmpty)
    | _ => none
  | _, _ => none
theorem isEmpty_rel {G : Glo} {φ : List Addr} {H : Hp} {ds : List D} {vs : List V} (h : VRels G φ H ds vs) : ds.isEmpty = vs.isEmpty := by
  have := h.length
  cases ds <;> cases vs <;> first | rfl | simp at this
theorem kisEmpty_rel {κ : Type} {G : Glo} {φ : List Addr} {H : Hp} {ds : List (κ × D)} {vs : List (κ × V)} (h : KRel G φ H ds vs) : ds.isEmpty = vs.isEmpty := by
  cases ds with
  | nil => simp only [KRel] at h; subst h; rfl
  | cons p r => obtain ⟨k, d⟩ := p; obtain ⟨v, ks, e, _⟩ := h; rw [e]; rfl
theorem truD_ok {G : Glo} {φ : List Addr} {S : Store} {H : Hp} (R : Rel G φ S H) {d : D} {v : V} (r : VRel G φ H d v) {b : Bool} (h : truD d S = some b) : TruV G.K v H b := by
  cases d with
  | non => simp only [VRel] at r; subst r; cases h; rfl
  | bl b => simp only [VRel] at r; subst r; cases h; rfl
  | int i => simp only [VRel] at r; subst r; cases h; rfl
  | str x =>
    simp only [VRel] at r; subst r
    simp only [truD] at h
    split at h
    · cases h; exact ⟨by rw [sl_eq]; assumption, rfl⟩
    · cases h
  | tup ds =>
    simp only [VRel] at r
    obtain ⟨a, vs, rfl, s, q⟩ := r
    cases h
    exact .inr (.inl ⟨vs, s, by rw [isEmpty_rel q]⟩)
  | fls ds =>
    simp only [VRel] at r
    obtain ⟨a, vs, rfl, s, q⟩ := r
    cases h
    exact .inl ⟨vs, s.sq, by rw [isEmpty_rel q]⟩
  | ref i =>
    simp only [truD] at h
    simp only [VRel] at r
    obtain ⟨a, rfl, ha⟩ := r
    split at h
    · rename_i ds e
      obtain ⟨vs, q, rs⟩ := R.at_ i a _ ha e
      cases h
      exact .inl ⟨vs, SqL.of q, by rw [isEmpty_rel rs]⟩
    · rename_i ds e
      obtain ⟨vs, q, rs⟩ := R.at_ i a _ ha e
      cases h
      exact .inr (.inr ⟨vs, q, by rw [kisEmpty_rel rs]⟩)
    · cases h
  | st k => cases h
  | ty n => cases h
def ofB (o : Option Bool) (S : Store) : Res Bool := match o with
  | some b => .ok b S
  | none => .bad
@[simp] theorem ofB_some (b : Bool) (S : Store) : ofB (some b) S = .ok b S := rfl
def dTst (a : DE) : DT := fun env S => (a env S).bind fun x S1 => ofB (truD x S1) S1
def tAnd2 (a b : DT) : DT := fun env S => (a env S).bind fun c S1 => if c = true then b env S1 else .ok false S1
def tOr2 (a b : DT) : DT := fun env S => (a env S).bind fun c S1 => if c = true then .ok true S1 else b env S1
def tNot1 (a : DT) : DT := fun env S => (a env S).bind fun c S1 => .ok (!c) S1
def PWx (C : Cp) (e : Expr) (d : DT) : Prop := ∀ X W, Cxt C W X → PW X e (rdT C.G W d)
section
variable {C : Cp} {a b c : Expr} {rest : List Expr} {da db dc : DE} {ta tb : DT} {pos : Pos}
theorem pw_imp {X : Cx} {e : Expr} {t t' : TT} (h : PW X e t) (k : ∀ σ H Q, t' σ H Q → t σ H Q) : PW X e t' := ⟨fun wh pins s σ H Q I q => h.run wh pins s σ H Q I (k σ H Q q)⟩
theorem rd_tst {G : Glo} {W : WX} {σ : St} {H : Hp} {Q : Bool → Hp → Prop} (h : rdT G W (dTst da) σ H Q) : rdE G W da σ H fun x H' => ∃ k, TruV G.K x H' k ∧ Q k H' := by
  obtain ⟨φ, S, env, R, E, P⟩ := h
  refine ⟨φ, S, env, R, E, P.bind.imp fun φ1 H1 S1 x n1 R1 P1 v1 r1 => ?_⟩
  cases q : truD x S1 with
  | none => rw [q] at P1; exact P1.elim
  | some k => rw [q] at P1; exact ⟨k, truD_ok R1 r1 q, Pst.now P1 R1⟩
theorem ptx_truth (ha : PEx C a da) (he : ∀ env whole, isTrue a env whole = (do let v ← whole; standAt a.pos; holding [v] (truthy v)) := by intro _ _; rfl) : PTx C a (dTst da) := fun X W h => by
  refine pt_imp (pt_truth (ha X W h) (he X.env)) fun σ H Q q => ?_
  rw [h.K]
  exact rd_tst q
end
def dTstB (a : DE) : DT := fun env S => (a env S).bind fun x S1 => match x with
  | .bl k => .ok k S1
  | _ => .bad
section
variable {C : Cp} {a b c : Expr} {rest : List Expr} {da db dc : DE} {ta tb : DT} {pos : Pos}
theorem rd_tstB {G : Glo} {W : WX} {σ : St} {H : Hp} {Q : Bool → Hp → Prop} (h : rdT G W (dTstB da) σ H Q) : rdE G W da σ H fun x H' => ∃ k, x = .bl k ∧ Q k H' := by
  obtain ⟨φ, S, env, R, E, P⟩ := h
  refine ⟨φ, S, env, R, E, P.bind.imp fun φ1 H1 S1 x n1 R1 P1 v1 r1 => ?_⟩
  cases x with
  | bl k => simp only [VRel] at r1; exact ⟨k, r1, Pst.now P1 R1⟩
  | _ => exact P1.elim
theorem ptx_cmp {o : CmpOp} {op : Op2} (ho : OpRx C (compareOp o) op) (ha : PEx C a da) (hb : PEx C b db) (hm : behindInMarks o b = false) : PTx C (.Compare a [o] [b] pos) (dTstB (dBin op da db)) := fun X W h =>
  pt_imp (pt_cmpR (ho X W h) (ha X W h) (hb X W h) hm) fun σ H Q q => rd_bin (rd_tstB q)
theorem ptx_chain {o o' : CmpOp} {op op' : Op2} (ho : OpRx C (compareOp o) op) (ho' : OpRx C (compareOp o') op') (ha : PEx C a da) (hb : PEx C b db) (hc : PEx C c dc) (hm : lastMarks [o, o'] [b, c] = false) : PTx C (.Compare a [o, o'] [b, c] pos) (dTstB (dChain op op' da db dc)) := fun X W h =>
  pt_imp (pt_chain (ho X W h) (ho' X W h) (ha X W h) (hb X W h) (hc X W h) hm) fun σ H Q q => rd_chain (rd_tstB q)
theorem rd_or {G : Glo} {W : WX} {σ : St} {H : Hp} {Q : Bool → Hp → Prop} (h : rdT G W (tOr2 ta tb) σ H Q) : L2.tOr (rdT G W ta) (rdT G W tb) σ H Q := by
  obtain ⟨φ, S, env, R, E, P⟩ := h
  refine ⟨φ, S, env, R, E, P.bind.imp fun φ1 H1 S1 k n1 R1 P1 => ?_⟩
  cases k with
  | true => exact iteT (Pst.now P1 R1)
  | false => exact iteF ⟨φ1, S1, env, R1, E.nxt n1, P1⟩
theorem pwx_or1 (ha : PTx C a ta) : PWx C (.BoolOp .Or [a] pos) ta := fun X W h => pw_or1 (ha X W h)
theorem pwx_or (ha : PTx C a ta) (hb : PWx C (.BoolOp .Or (b :: rest) pos) tb) : PWx C (.BoolOp .Or (a :: b :: rest) pos) (tOr2 ta tb) := fun X W h => pw_imp (pw_or (ha X W h) (hb X W h)) fun _ _ _ => rd_or
theorem PWx.pt {e : Expr} {t : DT} (h : PWx C e t) : PTx C e t := fun X W hx => (h X W hx).pt
theorem ptx_not (ha : PTx C a ta) : PTx C (.UnaryOp .Not a pos) (tNot1 ta) := fun X W h => by
  refine pt_imp (pt_not (ha X W h)) fun σ H Q ⟨φ, S, env, R, E, P⟩ => ?_
  exact ⟨φ, S, env, R, E, P.bind.imp fun φ1 H1 S1 k n1 R1 P1 => Pst.now P1 R1⟩
end
def dAndV (a b : DE) : DE := fun env S => (a env S).bind fun x S1 => (ofB (truD x S1) S1).bind fun k S1 => if k = true then b env S1 else .ok x S1
def dOrV (a b : DE) : DE := fun env S => (a env S).bind fun x S1 => (ofB (truD x S1) S1).bind fun k S1 => if k = true then .ok x S1 else b env S1
def dNotV (a : DE) : DE := fun env S => (a env S).bind fun x S1 => (ofB (truD x S1) S1).bind fun k S1 => .ok (.bl (!k)) S1
def dIf (t : DT) (a b : DE) : DE := fun env S => (t env S).bind fun k S1 => if k = true then a env S1 else b env S1
section
variable {C : Cp} {a b c : Expr} {rest : List Expr} {da db dc : DE} {ta tb : DT} {pos : Pos}
theorem pex_one {op : BoolOp} (ha : PEx C a da) : PEx C (.BoolOp op [a] pos) da := fun X W h => pe_one (ha X W h)
theorem pex_and (ha : PEx C a da) (hb : PEx C (.BoolOp .And (b :: rest) pos) db) : PEx C (.BoolOp .And (a :: b :: rest) pos) (dAndV da db) := fun X W h => by
  refine pe_imp (pe_andT (ha X W h) (hb X W h)) fun σ H Q ⟨φ, S, env, R, E, P⟩ => ?_
  refine ⟨φ, S, env, R, E, P.bind.imp fun φ1 H1 S1 x n1 R1 P1 v1 r1 => ?_⟩
  cases q : truD x S1 with
  | none => rw [q] at P1; exact P1.elim
  | some k =>
    rw [q] at P1
    rw [h.K]
    refine ⟨k, truD_ok R1 r1 q, ?_⟩
    cases k with
    | true => exact iteT ⟨φ1, S1, env, R1, E.nxt n1, P1⟩
    | false => exact iteF (Pst.now P1 R1 _ r1)
theorem pex_not (ha : PEx C a da) : PEx C (.UnaryOp .Not a pos) (dNotV da) := fun X W h => by
  refine pe_imp (pe_notT (ha X W h)) fun σ H Q ⟨φ, S, env, R, E, P⟩ => ?_
  refine ⟨φ, S, env, R, E, P.bind.imp fun φ1 H1 S1 x n1 R1 P1 v1 r1 => ?_⟩
  cases q : truD x S1 with
  | none => rw [q] at P1; exact P1.elim
  | some k =>
    rw [q] at P1
    rw [h.K]
    exact ⟨k, truD_ok R1 r1 q, Pst.now P1 R1 _ (by simp only [VRel])⟩
theorem pex_if (hc : PTx C c ta) (ha : PEx C a da) (hb : PEx C b db) : PEx C (.IfExp c a b pos) (dIf ta da db) := fun X W h => by
  refine pe_imp (pe_ifExp (hc X W h) (ha X W h) (hb X W h)) fun σ H Q ⟨φ, S, env, R, E, P⟩ => ?_
  refine ⟨φ, S, env, R, E, P.bind.imp fun φ1 H1 S1 k n1 R1 P1 => ?_⟩
  cases k with
  | true => exact iteT ⟨φ1, S1, env, R1, E.nxt n1, P1⟩
  | false => exact iteF ⟨φ1, S1, env, R1, E.nxt n1, P1⟩
end

def dNil : DA := fun _ S => .ok [] S
def dCons (a : DE) (r : DA) : DA := fun env S => (a env S).bind fun x S1 => (r env S1).bind fun xs S2 => .ok (x :: xs) S2
def dTup (r : DA) : DE := fun env S => (r env S).bind fun xs S1 => if xs.length ≤ sl then .ok (.tup xs) S1 else .bad
def mkL (xs : List D) (S : Store) : Res D := if xs.length ≤ sl then .ok (.ref S.length) (S ++ [.lst xs]) else .bad
def dLst (r : DA) : DE := fun env S => (r env S).bind fun xs S1 => mkL xs S1
section
variable {C : Cp} {a b c : Expr} {es : List Expr} {da : DE} {dr : DA} {pos : Pos}
theorem pax_nil : PAx C [] dNil := fun X W h => pa_imp pa_nil fun σ H Q ⟨φ, S, env, R, E, P⟩ => Pst.now P R [] VRels.nil
theorem pax_cons (ha : PEx C a da) (hr : PAx C es dr) (hs : ∀ env, starEach (a :: es) env = (false, eval a env) :: starEach es env := by intro _; rfl) : PAx C (a :: es) (dCons da dr) := fun X W h => by
  refine pa_imp (pa_cons (ha X W h) (hr X W h) (hs X.env)) fun σ H Q ⟨φ, S, env, R, E, P⟩ => ?_
  refine ⟨φ, S, env, R, E, P.bind.imp fun φ1 H1 S1 x n1 R1 P1 v1 r1 => ?_⟩
  exact ⟨φ1, S1, env, R1, E.nxt n1, P1.bind.imp fun φ2 H2 S2 xs n2 R2 P2 vs rs => Pst.now P2 R2 _ (VRels.cons (r1.nxt n2) rs)⟩
theorem pex_tup {j} (h : PAx C es dr) : PEx C (.Tuple es j pos) (dTup dr) := fun X W hx => by
  refine pe_imp (pe_tup (h X W hx)) fun σ H Q ⟨φ, S, env, R, E, P⟩ => ?_
  refine ⟨φ, S, env, R, E, P.bind.imp fun φ1 H1 S1 xs n1 R1 P1 vs rs => ?_⟩
  split at P1
  · refine ⟨by rw [sl_eq, ← rs.length]; assumption, fun p hp => ?_⟩
    exact PstV.tup (S := S1) P1 R1 rs hp
  · exact P1.elim
theorem mkL_ok {G : Glo} {B : Value → Option Addr → Hp → Prop} {φ : List Addr} {H : Hp} {Q : VK} {xs : List D} {vs : List V} {S : Store} (R : Rel G φ S H) (rs : VRels G φ H xs vs) (P : Pst G B φ H (fun φ' H' _ x => ∀ v, VRel G φ' H' x v → Q v H') (mkL xs S)) :
    vs.length ≤ sizeLine ∧ ∀ p, H p = none → Q (.ref p) (upd H p (.lst vs)) := by
  unfold mkL at P
  split at P
  · exact ⟨by rw [sl_eq, ← rs.length]; assumption, fun p hp => PstV.lst (S := S) P R rs hp⟩
  · exact P.elim
theorem pex_lst (h : PAx C es dr) : PEx C (.List es pos) (dLst dr) := fun X W hx => by
  refine pe_imp (pe_lst (h X W hx)) fun σ H Q ⟨φ, S, env, R, E, P⟩ => ?_
  exact ⟨φ, S, env, R, E, P.bind.imp fun φ1 H1 S1 xs n1 R1 P1 vs rs => mkL_ok R1 rs P1⟩
end

def sNext : DS := fun env S => .ok (.nx env) S
def sSeq (a b : DS) : DS := fun env S => (a env S).bind fun f S1 => match f with
  | .nx e => b e S1
  | f => .ok f S1
def sExpr (a : DE) : DS := fun env S => (a env S).bind fun _ S1 => .ok (.nx env) S1
def sRet (a : DE) : DS := fun env S => (a env S).bind fun x S1 => .ok (.rt x) S1
def sRetN : DS := fun _ S => .ok (.rt .non) S
def sBrk : DS := fun env S => .ok (.bk env) S
def sCnt : DS := fun env S => .ok (.ct env) S
def sIf (t : DT) (a b : DS) : DS := fun env S => (t env S).bind fun k S1 => if k = true then a env S1 else b env S1
def sNever : DS := fun _ _ => .bad
section
variable {C : Cp} {a c : Expr} {da : DE} {tc : DT} {st : Stmt} {sts sts' : List Stmt} {ds ds' : DS} {pos : Pos}
theorem rd_seq {G : Glo} {W : WX} {D : Ends} {σ : St} {H : Hp} (h : rdS G W (sSeq ds ds') D σ H) : tSeq (rdS G W ds) (rdS G W ds') D σ H := by
  obtain ⟨φ, S, env, R, E, P⟩ := h
  refine ⟨φ, S, env, R, E, P.bind.imp fun φ1 H1 S1 f n1 R1 P1 => ?_⟩
  cases f with
  | nx e => exact fun σ1 E1 => ⟨φ1, S1, e, R1, E1, P1⟩
  | rt d => exact Pst.now P1 R1
  | bk e => exact Pst.now P1 R1
  | ct e => exact Pst.now P1 R1
theorem pssx_nil : PSsx C [] sNext := fun X W h => pss_imp pss_nil fun D σ H ⟨φ, S, env, R, E, P⟩ => Pst.now P R σ E
theorem pssx_cons (h1 : PSx C st ds) (h2 : PSsx C sts ds') : PSsx C (st :: sts) (sSeq ds ds') := fun X W h => pss_imp (pss_cons (h1 X W h) (h2 X W h)) fun _ _ _ => rd_seq
theorem pssx_one (h1 : PSx C st ds) : PSsx C [st] ds := fun X W h => pss_one (h1 X W h)
theorem pst_err {G : Glo} {W : WX} {α : Type} {σ : St} {φ : List Addr} {H : Hp} {K : List Addr → Hp → Store → α → Prop} {r : Res α} (h : Pst G (fun c p H' => ∀ σ', W c p σ' H') φ H K r) : Pst G (fun c p H' => W c p σ H') φ H K r := by
  cases r with
  | ok a S => exact h
  | er x S => exact fun φ1 H1 n1 R1 cls dd xr => h φ1 H1 n1 R1 cls dd xr σ
  | bad => exact h
theorem psx_expr (ha : PEx C a da) (hs : ∀ env, swapsWith a none pos.line env = pure false := by intro _; rfl) : PSx C (.Expr a pos) (sExpr da) := fun X W h => by
  refine ps_imp (ps_expr (ha X W h) (hs X.env)) fun D σ H ⟨φ, S, env, R, E, P⟩ => ?_
  refine ⟨φ, S, env, R, E, Pst.bind (B := fun c p H' => W c p σ H') ?_ |>.imp fun φ1 H1 S1 x n1 R1 P1 v1 r1 => (Pst.now P1 R1 : FlP C.G D φ1 H1 (.nx env)) σ (E.nxt n1)⟩
  exact pst_err P
theorem psx_ret (ha : PEx C a da) : PSx C (.Return (some a) pos) (sRet da) := fun X W h => by
  refine ps_imp (ps_ret (ha X W h)) fun D σ H ⟨φ, S, env, R, E, P⟩ => ?_
  exact ⟨φ, S, env, R, E, (pst_err P).bind.imp fun φ1 H1 S1 x n1 R1 P1 v1 r1 => (Pst.now P1 R1 : FlP C.G D φ1 H1 (.rt x)) v1 r1⟩
theorem psx_if (hc : PTx C c tc) (ha : PSsx C sts ds) (hb : PSsx C sts' ds') : PSx C (.If c sts sts' pos) (sIf tc ds ds') := fun X W h => by
  refine ps_imp (ps_if (hc X W h) (ha X W h) (hb X W h)) fun D σ H ⟨φ, S, env, R, E, P⟩ => ?_
  have P1 : Pst C.G (fun c p H' => ∀ σ', W c p σ' H') φ H (fun φ1 H1 S1 k => Pst C.G (fun c p H' => ∀ σ', W c p σ' H') φ1 H1 (fun φ' H' _ f => FlP C.G D φ' H' f) (if k = true then ds env S1 else ds' env S1)) (tc env S) := P.bind
  refine ⟨φ, S, env, R, E, (pst_err P1).imp fun φ1 H1 S1 k n1 R1 P1 => ?_⟩
  cases k with
  | true => exact iteT ⟨φ1, S1, env, R1, E.nxt n1, P1⟩
  | false => exact iteF ⟨φ1, S1, env, R1, E.nxt n1, P1⟩
end
end Z

namespace Z
open PySem PySem.Spec PyProof.Rows L2

abbrev DG := D → En → Store → Res En
abbrev DGs := List D → En → Store → Res En
def GK (G : Glo) (vs : List Nat) (σ : St) (Q : St → Hp → Prop) : List Addr → Hp → Store → En → Prop := fun φ' H' _ e => ∀ σ', ERel G φ' H' e σ' → σ'.length = σ.length → (∀ j : Nat, j ∉ vs → σ'[j]? = σ[j]?) → Q σ' H'
def rdG (G : Glo) (W : WX) (vs : List Nat) (g : DG) : TG := fun v σ H Q => ∃ φ S env d, Rel G φ S H ∧ ERel G φ H env σ ∧ VRel G φ H d v ∧ Pst G (fun c p H' => ∀ σ', W c p σ' H') φ H (GK G vs σ Q) (g d env S)
def rdGs (G : Glo) (W : WX) (vs : List Nat) (g : DGs) : TGs := fun us σ H Q => ∃ φ S env ds, Rel G φ S H ∧ ERel G φ H env σ ∧ VRels G φ H ds us ∧ Pst G (fun c p H' => ∀ σ', W c p σ' H') φ H (GK G vs σ Q) (g ds env S)
def PGx (C : Cp) (e : Expr) (vs : List Nat) (g : DG) : Prop := ∀ X W, Cxt C W X → PG X e (rdG C.G W vs g)
def PGsx (C : Cp) (es : List Expr) (vs : List Nat) (g : DGs) : Prop := ∀ X W, Cxt C W X → PGs X es (rdGs C.G W vs g)
theorem pg_imp {X : Cx} {e : Expr} {t t' : TG} (h : PG X e t) (k : ∀ v σ H Q, t' v σ H Q → t v σ H Q) : PG X e t' := ⟨fun pins s σ H v u Q I r q => h.run pins s σ H v u Q I r (k v σ H Q q)⟩
theorem pgs_imp {X : Cx} {es : List Expr} {t t' : TGs} (h : PGs X es t) (k : ∀ v σ H Q, t' v σ H Q → t v σ H Q) : PGs X es t' := ⟨fun pins s σ H v u Q I r q => h.run pins s σ H v u Q I r (k v σ H Q q)⟩
def locB (C : Cp) (x : Str) : Bool := match C.sc.names.lookup x with
  | some .local => true
  | some .cell => C.fn x
  | _ => false
def gNm (i : Nat) : DG := fun d env S => .ok (env.set i (some d)) S
def gNil : DGs := fun ds env S => match ds with
  | [] => .ok env S
  | _ => .bad
def gCons (g : DG) (r : DGs) : DGs := fun ds env S => match ds with
  | d :: t => (g d env S).bind fun e S1 => r t e S1
  | [] => .bad
def gTup (n : Nat) (g : DGs) : DG := fun d env S => match d with
  | .tup ds => if ds.length = n then g ds env S else .bad
  | .ref i => match S[i]? with
    | some (.lst ds) => if ds.length = n then g ds env S else .bad
    | _ => .bad
  | _ => .bad
section
variable {C : Cp} {pos : Pos}
theorem locB_ok {x : Str} (h : locB C x = true) {X : Cx} {W : WX} (hx : Cxt C W X) : Loc X.env.scope x ∧ (X.fn x = true ∨ X.env.scope.names.lookup x = some .local) := by
  rw [hx.sc, hx.fn]
  unfold locB at h
  split at h
  · exact ⟨.inl (by assumption), .inr (by assumption)⟩
  · exact ⟨.inr (by assumption), .inl h⟩
  · cases h
theorem set_other {σ : St} {i : Nat} {v : Option V} {j : Nat} (h : j ∉ [i]) : (σ.set i v)[j]? = σ[j]? := List.getElem?_set_ne fun e => h (by simp [e])
theorem pgx_nm (i : Nat) {x : Str} (nd : C.N.Nodup) (hN : C.N[i]? = some x) (hl : locB C x = true) : PGx C (.Name x pos) [i] (gNm i) := fun X W h => by
  obtain ⟨l1, l2⟩ := locB_ok hl h
  refine pg_imp (pg_name (X := X) (i := i) (by rw [h.N]; exact nd) (by rw [h.N]; exact hN) l1 l2) fun v σ H Q ⟨φ, S, env, d, R, E, r, P⟩ => ?_
  exact Pst.now P R _ (E.set r) (by simp) fun j hj => set_other hj
theorem pgsx_nil : PGsx C [] [] gNil := fun X W h => by
  refine pgs_imp pgs_nil fun vs σ H Q ⟨φ, S, env, ds, R, E, r, P⟩ => ?_
  cases ds with
  | nil =>
    simp only [VRels] at r
    exact ⟨r, Pst.now P R _ E rfl fun _ _ => rfl⟩
  | cons d t => exact P.elim
theorem pgsx_cons {e : Expr} {es : List Expr} {vs ws : List Nat} {g : DG} {gs : DGs} (h1 : PGx C e vs g) (h2 : PGsx C es ws gs) (hs : ∀ env, (assignEach (e :: es) env).map (·.2) = assign e env :: (assignEach es env).map (·.2) := by intro _; rfl) : PGsx C (e :: es) (vs ++ ws) (gCons g gs) := fun X W h => by
  refine pgs_imp (pgs_cons (h1 X W h) (h2 X W h) (hs X.env)) fun us σ H Q ⟨φ, S, env, ds, R, E, r, P⟩ => ?_
  cases ds with
  | nil => exact P.elim
  | cons d t =>
    simp only [VRels] at r
    obtain ⟨u, us', e, r, rs⟩ := r
    refine ⟨u, us', e, φ, S, env, d, R, E, r, Pst.imp (Pst.bind (f := fun e S1 => gs t e S1) P) fun φ1 H1 S1 env1 n1 R1 P1 σ1 E1 l1 k1 => ?_⟩
    refine ⟨φ1, S1, env1, t, R1, E1, rs.nxt n1, P1.imp fun φ2 H2 S2 env2 n2 R2 P2 σ2 E2 l2 k2 => P2 σ2 E2 (l2.trans l1) fun j hj => ?_⟩
    rw [List.mem_append, not_or] at hj
    exact (k2 j hj.2).trans (k1 j hj.1)
theorem pgx_tup {es : List Expr} {k n : Nat} {vs : List Nat} {gs : DGs} (h : PGsx C es vs gs) (hn : ∀ env, (assignEach es env).length = n := by intro _; rfl) (hst : ∀ env, (assignEach es env).findIdx? (·.1) = none := by intro _; rfl) : PGx C (.Tuple es k pos) vs (gTup n gs) := fun X W hx => by
  refine ⟨fun pins s σ H v u Q I ru ⟨φ, S, env, d, R, E, r, P⟩ => ?_⟩
  cases d with
  | tup ds =>
    have r' := r
    simp only [VRel] at r
    obtain ⟨a, us, rfl, q, rs⟩ := r
    have P' : Pst C.G (fun c p H' => ∀ σ', W c p σ' H') φ H (GK C.G vs σ Q) (if ds.length = n then gs ds env S else .bad) := P
    split at P'
    · exact (pg_tup hx.calm (h X W hx) (hn X.env) (hst X.env)).run pins s σ H _ u Q I ru ⟨a, us, rfl, by rw [hx.K]; exact q, by rw [← rs.length]; assumption, φ, S, env, ds, R, E, rs, P'⟩
    · exact P'.elim
  | ref i =>
    have P' : Pst C.G (fun c p H' => ∀ σ', W c p σ' H') φ H (GK C.G vs σ Q) (match S[i]? with | some (.lst ds) => if ds.length = n then gs ds env S else .bad | _ => .bad) := P
    split at P'
    · rename_i ds e
      split at P'
      · obtain ⟨a, us, rfl, q, rs, _⟩ := sq_lst R r e
        exact (pg_lst hx.calm (h X W hx) (hn X.env) (hst X.env)).run pins s σ H _ u Q I ru ⟨a, us, rfl, SqL.of q, by rw [← rs.length]; assumption, φ, S, env, ds, R, E, rs, P'⟩
      · exact P'.elim
    · exact P'.elim
  | _ => exact P.elim
end

def sAsg (a : DE) (g : DG) : DS := fun env S => (a env S).bind fun x S1 => (g x env S1).bind fun e S2 => .ok (.nx e) S2
section
variable {C : Cp} {a t : Expr} {da : DE} {vs : List Nat} {g : DG} {pos : Pos}
theorem rd_asg {G : Glo} {W : WX} {D : Ends} {σ : St} {H : Hp} (h : rdS G W (sAsg da g) D σ H) : tAsg (rdE G W da) (rdG G W vs g) D σ H := by
  obtain ⟨φ, S, env, R, E, P⟩ := h
  refine ⟨φ, S, env, R, E, (pst_err P.bind).imp fun φ1 H1 S1 x n1 R1 P1 v1 r1 => ?_⟩
  exact ⟨φ1, S1, env, x, R1, E.nxt n1, r1, P1.bind.imp fun φ2 H2 S2 e n2 R2 P2 σ2 E2 _ _ => (Pst.now P2 R2 : FlP G D φ2 H2 (.nx e)) σ2 E2⟩
theorem psx_asg (ha : PEx C a da) (hg : PGx C t vs g) (hs : ∀ env, swapsWithSole [t] a pos.line env = pure false := by intro _; rfl) (hw : ∀ env, swappedStores [t] a env = pure none := by intro _; rfl)
    (h1 : ∀ env, (assignEach [t] env).map (·.2) = [assign t env] := by intro _; rfl) : PSx C (.Assign [t] a pos) (sAsg da g) := fun X W h =>
  ps_imp (ps_asg (ha X W h) (hg X W h) (hs X.env) (hw X.env) (h1 X.env)) fun _ _ _ => rd_asg
theorem psx_par {i j : Nat} {x y : Str} {b c : Expr} {dr : DA} {px py pt pt2 : Pos} {kt k2} (nd : C.N.Nodup) (hi : C.N[i]? = some x) (hj : C.N[j]? = some y) (hij : i ≠ j) (hx : C.sc.names.lookup x = some .local) (hy : C.sc.names.lookup y = some .local) (ha : PAx C [b, c] dr)
    (hw : ∀ env : Env, env.scope = C.sc → swappedStores [.Tuple [.Name x px, .Name y py] kt pt] (.Tuple [b, c] k2 pt2) env = pure (some [x, y]))
    (hs : ∀ env, swapsWithSole [.Tuple [.Name x px, .Name y py] kt pt] (.Tuple [b, c] k2 pt2) pos.line env = pure false := by intro _; rfl) :
    PSx C (.Assign [.Tuple [.Name x px, .Name y py] kt pt] (.Tuple [b, c] k2 pt2) pos) (sAsg (dTup dr) (gTup 2 (gCons (gNm i) (gCons (gNm j) gNil)))) := fun X W h => by
  refine ps_imp (ps_par h.calm (by rw [h.N]; exact nd) (by rw [h.N]; exact hi) (by rw [h.N]; exact hj) hij (by rw [h.sc]; exact hx) (by rw [h.sc]; exact hy) (ha X W h) (hw X.env h.sc) (hs X.env)) fun D σ H ⟨φ, S, env, R, E, P⟩ => ?_
  have P0 : Pst C.G (fun c p H' => ∀ σ', W c p σ' H') φ H _ (dTup dr env S) := P.bind
  unfold dTup at P0
  refine ⟨φ, S, env, R, E, (pst_err P0.bind).imp fun φ1 H1 S1 xs n1 R1 P1 vs rs => ?_⟩
  split at P1
  · have P2 := Pst.now P1 R1
    match xs, rs, P2 with
    | [d, e], rs, P2 =>
      simp only [VRels] at rs
      obtain ⟨v, us, rfl, rv, w, us', rfl, rw', rfl⟩ := rs
      refine ⟨v, w, rfl, ?_⟩
      exact (Pst.now (α := Fl) P2 R1 : FlP C.G D φ1 H1 (.nx _)) _ (((E.nxt n1).set rv).set rw')
    | [], rs, P2 => exact P2.elim
    | [_], rs, P2 => exact P2.elim
    | _ :: _ :: _ :: _, rs, P2 =>
      exfalso
      simp [gTup, Res.bind, Pst] at P2
  · exact P1.elim
end

abbrev Itd := Nat → Store → Option (Option D)
structure ItRel (G : Glo) (φ0 : List Addr) (H0 : Hp) (J : Itd) (Jx : It) : Prop where
  stop : ∀ i φ S H, Nxt φ0 φ H0 H → Rel G φ S H → J i S = some none → Jx.stop i H
  go : ∀ i φ S H d, Nxt φ0 φ H0 H → Rel G φ S H → J i S = some (some d) → Jx.go i H ∧ ∀ x H', Jx.yld i H x H' → Nxt φ φ H H' ∧ Rel G φ S H' ∧ VRel G φ H' d x
abbrev DI := En → Store → Res Itd
def rdI (G : Glo) (W : WX) (d : DI) : TI := fun σ H R => ∃ φ S env, Rel G φ S H ∧ ERel G φ H env σ ∧ Pst G (fun c p H' => W c p σ H') φ H (fun φ' H' _ J => ∀ Jx, ItRel G φ' H' J Jx → R Jx H') (d env S)
def PIx (C : Cp) (tg iter : Expr) (d : DI) : Prop := ∀ X W, Cxt C W X → PI X tg iter (rdI C.G W d)
theorem pi_imp {X : Cx} {tg e : Expr} {t t' : TI} (h : PI X tg e t) (k : ∀ σ H R, t' σ H R → t σ H R) : PI X tg e t' := ⟨fun pins s σ H R I q => h.run pins s σ H R I (k σ H R q)⟩

def jL (i : Nat) : Itd := fun k S => match S[i]? with
  | some (.lst ds) => some ds[k]?
  | _ => none
def jT (ds : List D) : Itd := fun k _ => some ds[k]?
def jR (lo : Int) (n : Nat) : Itd := fun k _ => some (if k < n then some (.int (lo + (k : Int))) else none)
def seqJ : D → Store → Option Itd
  | .tup ds, _ => some (jT ds)
  | .fls ds, _ => some (jT ds)
  | .ref i, S => match S[i]? with
    | some (.lst _) => some (jL i)
    | _ => none
  | _, _ => none
def iSeq (a : DE) : DI := fun env S => (a env S).bind fun x S1 => match seqJ x S1 with
  | some J => .ok J S1
  | none => .bad
section
variable {G : Glo} {φ0 φ : List Addr} {H0 H : Hp} {S : Store}
theorem it_list {i : Nat} {a : Addr} (ha : φ0[i]? = some a) : ItRel G φ0 H0 (jL i) (Itl G.K a) := by
  refine ⟨fun k φ S H n R e => ?_, fun k φ S H d n R e => ?_⟩
  · unfold jL at e
    split at e
    · rename_i ds es
      obtain ⟨vs, q, rs⟩ := R.at_ i a _ (n.at_ ha) es
      exact ⟨vs, SqL.of q, by rw [← rs.length]; exact List.getElem?_eq_none_iff.mp (Option.some.inj e)⟩
    · cases e
  · unfold jL at e
    split at e
    · rename_i ds es
      obtain ⟨vs, q, rs⟩ := R.at_ i a _ (n.at_ ha) es
      obtain ⟨v, hv, rv⟩ := rs.get (Option.some.inj e)
      refine ⟨⟨vs, v, SqL.of q, hv⟩, fun x H' y => ?_⟩
      obtain ⟨rfl, y⟩ := y
      have := y vs (SqL.of q)
      rw [hv] at this; cases this
      exact ⟨Nxt.refl _ _, R, rv⟩
    · cases e
theorem it_tup {ds : List D} {a : Addr} {vs : List V} (h : SqT G.K H0 a vs) (rs : VRels G φ0 H0 ds vs) : ItRel G φ0 H0 (jT ds) (Itt G.K a) := by
  refine ⟨fun k φ S H n R e => ?_, fun k φ S H d n R e => ?_⟩
  · exact ⟨vs, n.grow.sqt h, by rw [← rs.length]; exact List.getElem?_eq_none_iff.mp (Option.some.inj e)⟩
  · obtain ⟨v, hv, rv⟩ := rs.get (Option.some.inj e)
    refine ⟨⟨vs, v, n.grow.sqt h, hv⟩, fun x H' y => ?_⟩
    obtain ⟨rfl, y⟩ := y
    have := y vs (n.grow.sqt h)
    rw [hv] at this; cases this
    exact ⟨Nxt.refl _ _, R, rv.nxt n⟩
theorem it_fls {ds : List D} {a : Addr} {vs : List V} (h : FzL G.K H0 a vs) (rs : VRels G φ0 H0 ds vs) : ItRel G φ0 H0 (jT ds) (Itl G.K a) := by
  refine ⟨fun k φ S H n R e => ?_, fun k φ S H d n R e => ?_⟩
  · exact ⟨vs, (n.grow.fzl h).sq, by rw [← rs.length]; exact List.getElem?_eq_none_iff.mp (Option.some.inj e)⟩
  · obtain ⟨v, hv, rv⟩ := rs.get (Option.some.inj e)
    refine ⟨⟨vs, v, (n.grow.fzl h).sq, hv⟩, fun x H' y => ?_⟩
    obtain ⟨rfl, y⟩ := y
    have := y vs (n.grow.fzl h).sq
    rw [hv] at this; cases this
    exact ⟨Nxt.refl _ _, R, rv.nxt n⟩
theorem it_rng {lo : Int} {n : Nat} : ItRel G φ0 H0 (jR lo n) (Itr lo n) := by
  refine ⟨fun k φ S H nx R e => ?_, fun k φ S H d nx R e => ?_⟩
  · have e' : (if k < n then some (D.int (lo + (k : Int))) else none) = none := Option.some.inj e
    show n ≤ k
    by_cases h : k < n
    · rw [if_pos h] at e'; cases e'
    · omega
  · have e' : (if k < n then some (D.int (lo + (k : Int))) else none) = some d := Option.some.inj e
    by_cases h : k < n
    · rw [if_pos h] at e'
      cases e'
      refine ⟨h, fun x H' y => ?_⟩
      obtain ⟨rfl, rfl⟩ := y
      exact ⟨Nxt.refl _ _, R, by simp only [VRel]⟩
    · rw [if_neg h] at e'; cases e'
end
section
variable {C : Cp} {tg a b : Expr} {da : DE} {dr : DA} {pos p : Pos}
theorem pix_seq (ha : PEx C a da) : PIx C tg a (iSeq da) := fun X W h => by
  refine ⟨fun pins s σ H Rr I ⟨φ, S, env, R, E, P⟩ => ?_⟩
  have P0 := P.bind
  cases q : da env S with
  | bad => rw [q] at P0; exact P0.elim
  | er x S1 =>
    rw [q] at P0
    exact (pi_tup (ha X W h)).run pins s σ H Rr I ⟨φ, S, env, R, E, by rw [q]; exact P0⟩
  | ok x S1 =>
    rw [q] at P0
    cases e : seqJ x S1 with
    | none => simp only [iSeq, q, Res.bind_ok, e] at P; exact P.elim
    | some J =>
      have key : ∀ φ1 H1, Nxt φ φ1 H H1 → Rel C.G φ1 S1 H1 → ∀ Jx, ItRel C.G φ1 H1 J Jx → Rr Jx H1 := fun φ1 H1 n1 R1 Jx r => by
        have P1 := P0 φ1 H1 n1 R1
        dsimp only at P1
        rw [e] at P1
        exact Pst.now P1 R1 Jx r
      cases x with
      | tup ds =>
        refine (pi_tup (ha X W h)).run pins s σ H Rr I ⟨φ, S, env, R, E, ?_⟩
        rw [q]
        intro φ1 H1 n1 R1 v1 r1
        simp only [VRel] at r1
        obtain ⟨b, vs, rfl, sq, rs⟩ := r1
        have eJ : jT ds = J := Option.some.inj e
        subst eJ
        exact ⟨b, rfl, ⟨vs, by rw [h.K]; exact sq⟩, key φ1 H1 n1 R1 _ (by rw [h.K]; exact it_tup sq rs)⟩
      | fls ds =>
        refine (pi_list (ha X W h)).run pins s σ H Rr I ⟨φ, S, env, R, E, ?_⟩
        rw [q]
        intro φ1 H1 n1 R1 v1 r1
        simp only [VRel] at r1
        obtain ⟨b, vs, rfl, sq, rs⟩ := r1
        have eJ : jT ds = J := Option.some.inj e
        subst eJ
        exact ⟨b, rfl, ⟨vs, by rw [h.K]; exact sq.sq⟩, key φ1 H1 n1 R1 _ (by rw [h.K]; exact it_fls sq rs)⟩
      | ref i =>
        refine (pi_list (ha X W h)).run pins s σ H Rr I ⟨φ, S, env, R, E, ?_⟩
        rw [q]
        intro φ1 H1 n1 R1 v1 r1
        have e' : (match S1[i]? with
          | some (.lst _) => some (jL i)
          | _ => none) = some J := e
        split at e'
        · rename_i ds es
          obtain ⟨b, vs, rfl, sq, rs, hb⟩ := sq_lst R1 r1 es
          cases e'
          exact ⟨b, rfl, ⟨vs, SqL.of sq⟩, key φ1 H1 n1 R1 _ (by rw [h.K]; exact it_list hb)⟩
        · cases e'
      | _ => cases e
def glB (C : Cp) (x : Str) : Bool := match C.sc.names.lookup x with
  | some .globalImplicit => true
  | _ => false
theorem glB_ok {x : Str} (h : glB C x = true) {X : Cx} {W : WX} (hx : Cxt C W X) : Gl X x := by
  unfold glB at h
  split at h
  · show X.env.scope.names.lookup x = _
    rw [hx.sc]; assumption
  · cases h
def iRng1 (r : DA) : DI := fun env S => (r env S).bind fun xs S1 => match xs with
  | [.int j] => if -(2 ^ 62) ≤ j ∧ j < 2 ^ 62 then .ok (jR 0 j.toNat) S1 else .bad
  | _ => .bad
def iRng2 (r : DA) : DI := fun env S => (r env S).bind fun xs S1 => match xs with
  | [.int i, .int j] => if -(2 ^ 62) ≤ i ∧ i < 2 ^ 62 ∧ -(2 ^ 62) ≤ j ∧ j < 2 ^ 62 then .ok (jR i (j - i).toNat) S1 else .bad
  | _ => .bad
theorem pix_range1 (hg : glB C "range" = true) (hm : C.G.mg "range" = none) (ha : PAx C [a] dr) (hs : ∀ env, starEach [a] env = [(false, eval a env)] := by intro _; rfl) : PIx C tg (.Call (.Name "range" p) [a] [] pos) (iRng1 dr) := fun X W h => by
  refine pi_imp (pi_range1 (glB_ok hg h) (by rw [h.mg]; exact hm) (ha X W h) (hs X.env)) fun σ H Rr ⟨φ, S, env, R, E, P⟩ => ?_
  refine ⟨φ, S, env, R, E, P.bind.imp fun φ1 H1 S1 xs n1 R1 P1 vs rs => ?_⟩
  match xs, rs, P1 with
  | [.int j], rs, P1 =>
    simp only [VRels, VRel] at rs
    obtain ⟨u, us, rfl, rfl, rfl⟩ := rs
    simp only [] at P1
    split at P1
    · rename_i hb
      exact ⟨j, rfl, hb.1, hb.2, Pst.now P1 R1 _ it_rng⟩
    · exact P1.elim
  | [], rs, P1 => exact P1.elim
  | [.non], rs, P1 => exact P1.elim
  | [.bl _], rs, P1 => exact P1.elim
  | [.str _], rs, P1 => exact P1.elim
  | [.tup _], rs, P1 => exact P1.elim
  | [.ref _], rs, P1 => exact P1.elim
  | [.st _], rs, P1 => exact P1.elim
  | [.ty _], rs, P1 => exact P1.elim
  | [.fls _], rs, P1 => exact P1.elim
  | x :: _ :: _, rs, P1 => cases x <;> exact P1.elim
end

def FUEL : Nat := 2 ^ 70
def forGo (J : Itd) (g : DG) (b : DS) : Nat → Nat → En → Store → Res Fl
  | 0, _, _, _ => .bad
  | n + 1, i, env, S => match J i S with
    | none => .bad
    | some none => .ok (.nx env) S
    | some (some d) => (g d env S).bind fun env1 S1 => (b env1 S1).bind fun f S2 => match f with
      | .nx e => forGo J g b n (i + 1) e S2
      | .ct e => forGo J g b n (i + 1) e S2
      | .bk e => .ok (.nx e) S2
      | .rt d => .ok (.rt d) S2
def sFor (it : DI) (g : DG) (b : DS) : DS := fun env S => (it env S).bind fun J S1 => forGo J g b FUEL 0 env S1
def whileGo (t : DT) (b : DS) : Nat → En → Store → Res Fl
  | 0, _, _ => .bad
  | n + 1, env, S => (t env S).bind fun k S1 => if k = true then (b env S1).bind fun f S2 => match f with
      | .nx e => whileGo t b n e S2
      | .ct e => whileGo t b n e S2
      | .bk e => .ok (.nx e) S2
      | .rt d => .ok (.rt d) S2
    else .ok (.nx env) S1
def sWhile (t : DT) (b : DS) : DS := fun env S => whileGo t b FUEL env S
section
variable {C : Cp} {tg iter c : Expr} {body : List Stmt} {it : DI} {g : DG} {b : DS} {t : DT} {vs : List Nat} {pos : Pos}
theorem psx_for (hi : PIx C tg iter it) (hg : PGx C tg vs g) (hb : PSsx C body b) (hs : ∀ env x, foldedSetIterable iter env x = pure x := by intro _ _; rfl) : PSx C (.For tg iter body [] pos) (sFor it g b) := fun X W h => by
  refine ps_imp (ps_for h.pass h.calm (hi X W h) (hg X W h) (hb X W h) (hs X.env)) fun D σ H ⟨φ, S, env, R, E, P⟩ => ?_
  have P0 : Pst C.G (fun c p H' => ∀ σ', W c p σ' H') φ H _ (it env S) := P.bind
  refine ⟨φ, S, env, R, E, (pst_err P0).imp fun φ1 H1 S1 J n1 R1 P1 Jx hJ => ?_⟩
  refine ⟨fun i m σ' H' => ∃ φ' S' env', Rel C.G φ' S' H' ∧ ERel C.G φ' H' env' σ' ∧ Nxt φ1 φ' H1 H' ∧ Pst C.G (fun c p H' => ∀ σ', W c p σ' H') φ' H' (fun φ' H' _ f => FlP C.G D φ' H' f) (forGo J g b m i env' S'), ⟨FUEL, φ1, S1, env, R1, E.nxt n1, Nxt.refl _ _, P1⟩, ?_⟩
  rintro i m σ2 H2 ⟨φ2, S2, env2, R2, E2, n2, P2⟩
  cases m with
  | zero => exact P2.elim
  | succ m =>
    unfold forGo at P2
    cases q : J i S2 with
    | none => rw [q] at P2; exact P2.elim
    | some o =>
      rw [q] at P2
      cases o with
      | none => exact .inl ⟨hJ.stop i φ2 S2 H2 n2 R2 q, Pst.now P2 R2 σ2 E2⟩
      | some d =>
        obtain ⟨go, yld⟩ := hJ.go i φ2 S2 H2 d n2 R2 q
        refine .inr ⟨go, _, fun σ' H' w => ⟨m, Nat.lt_succ_self m, w⟩, fun x H' y => ?_⟩
        obtain ⟨ny, Ry, ry⟩ := yld x H' y
        refine ⟨φ2, S2, env2, d, Ry, E2.nxt ny, ry, (Pst.nxt P2 ny).bind.imp fun φ3 H3 S3 env3 n3 R3 P3 σ3 E3 _ _ => ?_⟩
        refine ⟨φ3, S3, env3, R3, E3, P3.bind.imp fun φ4 H4 S4 f n4 R4 P4 => ?_⟩
        have nn : Nxt φ1 φ4 H1 H4 := ((n2.trans ny).trans n3).trans n4
        cases f with
        | nx e => exact fun σ4 E4 => ⟨φ4, S4, e, R4, E4, nn, P4⟩
        | ct e => exact fun σ4 E4 => ⟨φ4, S4, e, R4, E4, nn, P4⟩
        | bk e => exact fun σ4 E4 => (Pst.now P4 R4 : FlP C.G D φ4 H4 (.nx e)) σ4 E4
        | rt d => exact (Pst.now P4 R4 : FlP C.G D φ4 H4 (.rt d))
theorem psx_while (hc : PTx C c t) (hb : PSsx C body b) : PSx C (.While c body [] pos) (sWhile t b) := fun X W h => by
  refine ps_imp (ps_while h.pass (hc X W h) (hb X W h)) fun D σ H ⟨φ, S, env, R, E, P⟩ => ?_
  refine ⟨fun m σ' H' => ∃ φ' S' env', Rel C.G φ' S' H' ∧ ERel C.G φ' H' env' σ' ∧ Pst C.G (fun c p H' => ∀ σ', W c p σ' H') φ' H' (fun φ' H' _ f => FlP C.G D φ' H' f) (whileGo t b m env' S'), ⟨FUEL, φ, S, env, R, E, P⟩, ?_⟩
  rintro m σ2 H2 ⟨φ2, S2, env2, R2, E2, P2⟩
  cases m with
  | zero => exact P2.elim
  | succ m =>
    unfold whileGo at P2
    refine ⟨φ2, S2, env2, R2, E2, (pst_err P2.bind).imp fun φ3 H3 S3 k n3 R3 P3 => ?_⟩
    cases k with
    | false => exact iteF (Pst.now P3 R3 σ2 (E2.nxt n3))
    | true =>
      refine iteT ⟨_, fun σ' H' w => ⟨m, Nat.lt_succ_self m, w⟩, φ3, S3, env2, R3, E2.nxt n3, P3.bind.imp fun φ4 H4 S4 f n4 R4 P4 => ?_⟩
      cases f with
      | nx e => exact fun σ4 E4 => ⟨φ4, S4, e, R4, E4, P4⟩
      | ct e => exact fun σ4 E4 => ⟨φ4, S4, e, R4, E4, P4⟩
      | bk e => exact fun σ4 E4 => (Pst.now P4 R4 : FlP C.G D φ4 H4 (.nx e)) σ4 E4
      | rt d => exact (Pst.now P4 R4 : FlP C.G D φ4 H4 (.rt d))
end
end Z

namespace Z
open PySem PySem.Spec PyProof.Rows L2

def spD (G : Glo) (n : Nat) (F : Fn) : Sp := fun vs H Q E => ∃ φ S ds, Rel G φ S H ∧ VRels G φ H ds vs ∧ ds.length = n ∧ Pst G E φ H (fun φ' H' _ r => ∀ v, VRel G φ' H' r v → Q v H') (F ds S)
structure FnIs (G : Glo) (k : Nat) (x : Str) (n : Nat) (F : Fn) : Prop where
  ex : ∃ (f : Addr) (fd : FuncData) (ps : List Str), ps.length = n ∧ FnOk G.P G.w G.K G.mg G.base (L2.CX G.P G.w) k f fd ps (spD G n F) ∧ G.mg x = some (.ref f) ∧ PySem.W.keepIn G.K (.ref f) = true ∧ Binds G.K fd ps []
def mkFn (nl : Nat) (b : DS) : Fn := fun ds S => (b (ds.map some ++ List.replicate (nl - ds.length) none) S).bind fun f S1 => match f with
  | .rt d => .ok d S1
  | .nx _ => .ok .non S1
  | _ => .bad
theorem ERel.start {G : Glo} {φ : List Addr} {H : Hp} {N : List Str} {ds : List D} {vs : List V} (h : VRels G φ H ds vs) : ERel G φ H (ds.map some ++ List.replicate (N.length - ds.length) none) (start N vs) := by
  have hl := h.length
  show ERel G φ H _ (vs.map some ++ List.replicate (N.length - vs.length) none)
  refine ⟨by simp [hl], fun i d e => ?_⟩
  by_cases hi : i < ds.length
  · rw [List.getElem?_append_left (by simpa using hi), List.getElem?_map] at e
    cases q : ds[i]? with
    | none => rw [q] at e; cases e
    | some d' =>
      rw [q] at e
      cases e
      obtain ⟨v, hv, r⟩ := h.get q
      exact ⟨v, by rw [List.getElem?_append_left (by simp; omega), List.getElem?_map, hv]; rfl, r⟩
  · rw [List.getElem?_append_right (by simpa using hi), List.getElem?_replicate] at e
    split at e <;> cases e
section
variable {G : Glo} {x qual : Str} {params : Arguments} {body : List Stmt} {scope : Scope} {dvs : List V} {kws : List (Str × V)} {f : Addr} {fd : FuncData} {N ps : List Str} {k n : Nat} {b : DS}
theorem fn_ok (F : FunD G.K x qual params body scope dvs kws f fd) (Sc : FnScope N ps scope) (hn : ps.length = n) (hb : PSsx ⟨G, k, N, scope, fun _ => true, none, false⟩ body b) : FnOk G.P G.w G.K G.mg G.base (L2.CX G.P G.w) (k + 1) f fd ps (spD G n (mkFn N.length b)) := by
  refine F.ok Sc (fun vs H Q E ⟨φ, S, ds, R, r, e, _⟩ => by rw [← r.length, e, hn]) fun cdv A outer s H vs Q E hr ⟨φ, S, ds, R, r, e, P⟩ => ?_
  refine ⟨_, hb _ (fun cls d _ H => E cls d H) ⟨rfl, rfl, rfl, rfl, rfl, rfl, rfl, rfl, hr, rfl, takes_of rfl rfl rfl rfl, passes_of rfl, (fun _ _ z => nomatch z), (fun z => nomatch z), (fun _ _ _ _ _ z => z)⟩, φ, S, _, R, ERel.start r, ?_⟩
  have P0 := P.bind
  have P1 : Pst G (fun c p H' => ∀ σ' : St, E c p H') φ H (fun φ1 H1 S1 a => Pst G E φ1 H1 (fun φ' H' _ r => ∀ v, VRel G φ' H' r v → Q v H') (match a with
      | .rt d => .ok d S1
      | .nx _ => .ok .non S1
      | _ => .bad)) (b (ds.map some ++ List.replicate (N.length - ds.length) none) S) := by
    cases q : b (ds.map some ++ List.replicate (N.length - ds.length) none) S with
    | ok a S1 => rw [q] at P0; exact P0
    | er y S1 => rw [q] at P0; exact fun φ1 H1 n1 R1 cls dd xr _ => P0 φ1 H1 n1 R1 cls dd xr
    | bad => rw [q] at P0; exact P0
  refine P1.imp fun φ1 H1 S1 fl n1 R1 P2 => ?_
  cases fl with
  | nx e => exact fun σ1 E1 => Pst.now P2 R1 .non (by simp only [VRel])
  | rt d => exact Pst.now P2 R1
  | bk e => exact P2.elim
  | ct e => exact P2.elim
theorem fn_is {y : Str} (F : FunD G.K x qual params body scope [] kws f fd) (hm : G.mg y = some (.ref f)) (Sc : FnScope N ps scope) (hn : ps.length = n)
    (hbi : ∀ (kV doc pm : Value) (an : Option Addr) (cdv ct : Value) (us : List Value), us.length = ps.length → bindArgs (PySem.W.fnOf x qual params body scope .none kV doc pm an cdv ct) ⟨us, []⟩ = pure (ps.zip us))
    (hb : PSsx ⟨G, k, N, scope, fun _ => true, none, false⟩ body b) : FnIs G (k + 1) y n (mkFn N.length b) :=
  ⟨f, fd, ps, hn, fn_ok F Sc hn hb, hm, F.kp, F.bindsN hbi⟩
end
def dCall (F : Fn) (r : DA) : DE := fun env S => (r env S).bind fun xs S1 => F xs S1
section
variable {C : Cp} {e : Expr} {es : List Expr} {dr : DA} {x : Str} {p pos : Pos} {k n : Nat} {F : Fn}
theorem pex_call (h : FnIs C.G k x n F) (hk : k ≤ C.k) (hg : glB C x = true) (ha : PAx C (e :: es) dr) (hn : ∀ env S xs S', dr env S = .ok xs S' → xs.length = n) (hdb : (x == ("__debug__" : Str)) = false := by decide +kernel)
    (he : ∀ env, starEach (e :: es) env = (false, eval e env) :: starEach es env := by intro _; rfl) (hpl : ∀ env, (backTo pos (starEach es env)).any (·.1) = false := by intro _; rfl) : PEx C (.Call (.Name x p) (e :: es) [] pos) (dCall F dr) := fun X W hx => by
  obtain ⟨f, fd, ps, _, ok, hm, kp, hb⟩ := h.ex
  refine pe_imp (pe_callS (by rw [hx.prog, hx.w, hx.K, hx.mg, hx.base]; exact ok) (hx.room.mono hk) (glB_ok hg hx) (by rw [hx.mg]; exact hm) (by rw [hx.K]; exact kp) (by rw [hx.K]; exact hb) (E := WE W) (fun σ => by rw [← hx.prog, ← hx.w]; exact passAt hx.takes σ) (ha X W hx) hdb (he X.env) (hpl X.env)) fun σ H Q ⟨φ, S, env, R, E, P⟩ => ?_
  have P0 := P.bind
  cases q : dr env S with
  | bad => rw [q] at P0; exact P0.elim
  | er y S1 => rw [q] at P0; exact ⟨φ, S, env, R, E, by rw [q]; exact P0⟩
  | ok xs S1 =>
    rw [q] at P0
    refine ⟨φ, S, env, R, E, ?_⟩
    rw [q]
    exact fun φ1 H1 n1 R1 vs rs => ⟨φ1, S1, xs, R1, rs, hn env S xs S1 q, P0 φ1 H1 n1 R1⟩
end

def tYes1 : DT := fun _ S => .ok true S
def wipeE (env : En) : List Nat → En
  | [] => env
  | v :: vs => (wipeE env vs).set v none
def Res.cut {α : Type} : Res α → Res α
  | .ok a S => .ok a S
  | _ => .bad
@[simp] theorem Res.cut_ok {α : Type} (a : α) (S : Store) : (Res.ok a S).cut = .ok a S := rfl
theorem Pst.cut {α : Type} {G : Glo} {B B' : Value → Option Addr → Hp → Prop} {φ : List Addr} {H : Hp} {K : List Addr → Hp → Store → α → Prop} {r : Res α} (h : Pst G B φ H K r.cut) : Pst G B' φ H K r := by
  cases r with
  | ok a S => exact h
  | er x S => exact h.elim
  | bad => exact h.elim
theorem Pst.cut_bind {α β : Type} {G : Glo} {B : Value → Option Addr → Hp → Prop} {φ : List Addr} {H : Hp} {K : List Addr → Hp → Store → β → Prop} {r : Res α} {f : α → Store → Res β} (h : Pst G B φ H K (r.cut.bind f)) : ∃ a S, r = .ok a S ∧ Pst G B φ H K (f a S) := by
  cases r with
  | ok a S => exact ⟨a, S, rfl, h⟩
  | er x S => exact h.elim
  | bad => exact h.elim
theorem Res.bind_assoc {α β γ : Type} (r : Res α) (f : α → Store → Res β) (g : β → Store → Res γ) : (r.bind f).bind g = r.bind fun a S => (f a S).bind g := by cases r <;> rfl
def lcGo (J : Itd) (g : DG) (t : DT) (b : DE) (env : En) : Nat → Nat → List D → Store → Res (List D)
  | 0, _, _, _ => .bad
  | n + 1, i, acc, S => match J i S with
    | none => .bad
    | some none => .ok acc S
    | some (some d) => (g d env S).cut.bind fun env1 S1 => (t env1 S1).cut.bind fun k S2 => if k = true then (b env1 S2).cut.bind fun y S3 => if acc.length < sl then lcGo J g t b env n (i + 1) (acc ++ [y]) S3 else .bad
      else lcGo J g t b env n (i + 1) acc S2
def dLc (it : DI) (g : DG) (t : DT) (b : DE) (own : List Nat) : DE := fun env S => (it env S).bind fun J S1 => (lcGo J g t b (wipeE env own) FUEL 0 [] S1).bind fun acc S2 => .ok (.ref S2.length) (S2 ++ [.lst acc])
def Cp.blk (C : Cp) (scope : Scope) : Cp := ⟨C.G, C.k, C.N, relS scope C.sc, fun x => scope.names.lookup x == some .cell, none, C.gd⟩
def PTsx (C : Cp) (ifs : List Expr) (t : DT) : Prop := ∀ X W, Cxt C W X → PTs X ifs (rdT C.G W t)
theorem pts_imp {X : Cx} {es : List Expr} {t t' : TT} (h : PTs X es t) (k : ∀ σ H Q, t' σ H Q → t σ H Q) : PTs X es t' := ⟨fun pins s σ H Q I q => h.run pins s σ H Q I (k σ H Q q)⟩
theorem ptsx_nil {C : Cp} : PTsx C [] tYes1 := fun X W h => pts_imp pts_nil fun σ H Q ⟨φ, S, env, R, E, P⟩ => Pst.now P R
theorem ptsx_one {C : Cp} {c : Expr} {t : DT} (h : PTx C c t) : PTsx C [c] t := fun X W hx => pts_one (h X W hx)
def W0 : WX := fun _ _ _ _ => False
theorem cxt_blk {C : Cp} {W : WX} {X : Cx} (h : Cxt C W X) {scope : Scope} {s : Shared} {H : Hp} {cn : Addr} {cl : List (Str × Addr)} {fp : List Addr} : Cxt (C.blk scope) W0 (X.blk s H scope (compEnvC scope cl cn X.env) fp) where
  prog := h.prog
  w := h.w
  K := h.K
  mg := h.mg
  base := h.base
  N := h.N
  sc := by show relS scope X.env.scope = relS scope C.sc; rw [h.sc]
  fn := rfl
  room := h.room
  calm := h.calm
  takes := L2.takes0
  pass := PassesOwn.never
  cd := fun _ _ z => nomatch z
  gd := h.gd
  ind := fun _ _ _ _ _ z => z
theorem ERel.wipe {G : Glo} {φ : List Addr} {H : Hp} {env : En} {σ : St} (h : ERel G φ H env σ) : ∀ vs : List Nat, ERel G φ H (wipeE env vs) (wipe σ vs)
  | [] => h
  | v :: vs => ERel.unset (ERel.wipe h vs)
theorem wipe_same {σ σ' : St} {vs : List Nat} (h : ∀ j : Nat, j ∉ vs → σ'[j]? = (L2.wipe σ vs)[j]?) (hl : σ'.length = σ.length) : L2.wipe σ' vs = L2.wipe σ vs := by
  refine List.ext_getElem? fun i => ?_
  by_cases hi : i ∈ vs
  · have wn : ∀ (τ : St) (us : List Nat), i ∈ us → i < τ.length → (L2.wipe τ us)[i]? = some none := by
      intro τ us
      induction us with
      | nil => intro z; cases z
      | cons u us ih =>
        intro z hlt
        show ((L2.wipe τ us).set u none)[i]? = some none
        by_cases e : u = i
        · subst e
          rw [List.getElem?_set_self (by rw [L2.wipe_length]; exact hlt)]
        · rw [List.getElem?_set_ne e]
          exact ih ((List.mem_cons.mp z).resolve_left (Ne.symm e)) hlt
    by_cases hlt : i < σ.length
    · rw [wn σ' vs hi (by rw [hl]; exact hlt), wn σ vs hi hlt]
    · rw [List.getElem?_eq_none (by rw [L2.wipe_length, hl]; omega), List.getElem?_eq_none (by rw [L2.wipe_length]; omega)]
  · rw [L2.wipe_out hi, h i hi]
section
variable {C : Cp} {elt tg iter : Expr} {ifs : List Expr} {scope : Scope} {own : List (Str × Nat)} {pos : Pos} {it : DI} {g : DG} {t : DT} {b : DE} {vs : List Nat}
theorem nxt_over {φ0 φ : List Addr} {H0 H : Hp} {p : Addr} {o : HO} (n : Nxt φ0 φ H0 H) (h : H0 p = none) (nt : NT o := by trivial) : Nxt φ0 φ H0 (upd H p o) :=
  ⟨n.ext, ⟨fun a xs e => by rw [upd_ne (ne_of_none e h)]; exact n.grow.tup a xs e, fun a ob u e => by rw [upd_ne (ne_of_none e h)]; exact n.grow.frz a ob u e, fun a fs e => by rw [upd_ne (ne_of_none e h)]; exact n.grow.xds a fs e, fun a b e => by rw [upd_ne (ne_of_none e h)]; exact n.grow.owns a b e⟩, fun b u e nb st => by rw [upd_ne (ne_of_none e h)]; exact n.frame b u e nb st,
    fun b u e z => let ⟨u', q, z'⟩ := n.there b u e z; there_upd nt b u' q z'⟩
theorem grow_lst {H : Hp} {p : Addr} {vs us : List V} (h : H p = some (.lst vs)) : Grow H (upd H p (.lst us)) := Grow.mut h trivial
theorem rd_lc {W : WX} {σ : St} {H : Hp} {Q : VK} (hv : ∀ j ∈ vs, j ∈ own.map (·.2)) (h : rdE C.G W (dLc it g t b (own.map (·.2))) σ H Q) : tLc (rdI C.G W it) (rdG C.G W0 vs g) (rdT C.G W0 t) (rdE C.G W0 b) (own.map (·.2)) σ H Q := by
  obtain ⟨φ, S, env, R, E, P⟩ := h
  refine ⟨φ, S, env, R, E, P.bind.imp fun φ1 H1 S1 J n1 R1 P1 Jx hJ Da hD => ?_⟩
  have E1 : ERel C.G φ1 H1 (wipeE env (own.map (·.2))) (L2.wipe σ (own.map (·.2))) := (E.nxt n1).wipe _
  refine ⟨fun i m H' => ∃ φ' S' acc vs', Rel C.G φ' S' H' ∧ Nxt φ1 φ' H1 H' ∧ Da ∉ φ' ∧ H' Da = some (.lst vs') ∧ VRels C.G φ' H' acc vs' ∧
    Pst C.G (fun c p H' => W c p σ H') φ1 H1 (fun φ' H' _ x => ∀ v, VRel C.G φ' H' x v → Q v H') ((lcGo J g t b (wipeE env (own.map (·.2))) m i acc S').bind fun acc S2 => .ok (.ref S2.length) (S2 ++ [.lst acc])), ⟨FUEL, φ1, S1, [], [], ?_⟩, ?_⟩
  · exact ⟨R1.mute (R1.notmem hD) (Grow.new hD) (nx_none hD), nxt_over (Nxt.refl _ _) hD, R1.notmem hD, upd_same, VRels.nil, P1⟩
  · rintro i m H2 ⟨φ2, S2, acc, us, R2, n2, nd, hDa, rs, P3⟩
    cases m with
    | zero => exact P3.elim
    | succ m =>
      unfold lcGo at P3
      cases q : J i S2 with
      | none => rw [q] at P3; exact P3.elim
      | some o =>
        rw [q] at P3
        cases o with
        | none =>
          refine .inl ⟨hJ.stop i φ2 S2 H2 n2 R2 q, ?_⟩
          have f : ∀ (i : Nat) (a : Addr), φ2[i]? = some a → (φ2 ++ [Da])[i]? = some a := fun i a e => by rw [List.getElem?_append_left (List.getElem?_eq_some_iff.mp e).1]; exact e
          have R3 : Rel C.G (φ2 ++ [Da]) (S2 ++ [.lst acc]) H2 := R2.adopt nd ⟨us, hDa, rs.up f (Grow.refl _)⟩
          obtain ⟨ψ, e, fr⟩ := n2.ext
          have n3 : Nxt φ1 (φ2 ++ [Da]) H1 H2 := ⟨⟨ψ ++ [Da], by rw [e, List.append_assoc], fun q z => by
            rcases List.mem_append.mp z with z | z
            · exact fr q z
            · rw [List.mem_singleton.mp z, hD]; intro _ e; cases e⟩, n2.grow, n2.frame, n2.there⟩
          have P4 := P3 (φ2 ++ [Da]) H2 n3 R3 (.ref Da)
          refine P4 ?_
          simp only [VRel]
          exact ⟨Da, rfl, by rw [← R2.len]; simp⟩
        | some d =>
          obtain ⟨go, yld⟩ := hJ.go i φ2 S2 H2 d n2 R2 q
          refine .inr ⟨go, _, fun H' w => ⟨m, Nat.lt_succ_self m, w⟩, fun x H' y => ?_⟩
          obtain ⟨ny, Ry, ry⟩ := yld x H' y
          dsimp only at P3
          rw [Res.bind_assoc] at P3
          obtain ⟨env3, S3, e3, P4⟩ := P3.cut_bind
          have hDy : H' Da = some (.lst us) := ny.frame _ _ hDa nd trivial
          refine ⟨φ2, S2, _, d, Ry, (E1.nxt n2).nxt ny, ry, ?_⟩
          rw [e3]
          intro φ3 H3 n3 R3 σ3 E3 l3 k3
          refine ⟨wipe_same (fun j hj => k3 j fun z => hj (hv j z)) (by rw [l3, L2.wipe_length]), φ3, S3, env3, R3, E3, ?_⟩
          rw [Res.bind_assoc] at P4
          obtain ⟨k, S4, e4, P5⟩ := P4.cut_bind
          rw [e4]
          intro φ4 H4 n4 R4
          have nd3 : Da ∉ φ3 := n3.notin hDy nd
          have hD3 : H3 Da = some (.lst us) := n3.frame _ _ hDy nd trivial
          have nd4 : Da ∉ φ4 := n4.notin hD3 nd3
          have hD4 : H4 Da = some (.lst us) := n4.frame _ _ hD3 nd3 trivial
          have nn : Nxt φ1 φ4 H1 H4 := ((n2.trans ny).trans n3).trans n4
          have rs4 : VRels C.G φ4 H4 acc us := ((rs.nxt ny).nxt n3).nxt n4
          cases k with
          | false => exact iteF ⟨φ4, S4, acc, us, R4, nn, nd4, hD4, rs4, P5⟩
          | true =>
            refine iteT ⟨φ4, S4, env3, R4, E3.nxt n4, ?_⟩
            rw [if_pos rfl, Res.bind_assoc] at P5
            obtain ⟨y5, S5, e5, P6⟩ := P5.cut_bind
            rw [e5]
            intro φ5 H5 n5 R5 v5 r5
            have hD5 : H5 Da = some (.lst us) := n5.frame _ _ hD4 nd4 trivial
            have nd5 : Da ∉ φ5 := n5.notin hD4 nd4
            split at P6
            · rename_i hlt
              have g5 : Grow H5 (upd H5 Da (.lst (us ++ [v5]))) := grow_lst hD5
              refine ⟨us, hD5, by rw [sl_eq, ← rs4.length]; exact hlt, φ5, S5, acc ++ [y5], us ++ [v5], R5.mute nd5 g5 (nx_some hD5), nxt_over (nn.trans n5) hD, nd5, upd_same, ?_, P6⟩
              exact ((rs4.nxt n5).append (VRels.cons r5 VRels.nil)).up (fun _ _ q => q) g5
            · exact P6.elim
theorem pex_lc (nd : C.N.Nodup) (hi : PIx C tg iter it) (ok : blkC C.N C.sc scope own = true) (hg : PGx (C.blk scope) tg vs g) (ht : PTsx (C.blk scope) ifs t) (he : PEx (C.blk scope) elt b) (hv : ∀ j ∈ vs, j ∈ own.map (·.2)) (hs : ∀ env x, foldedSetIterable iter env x = pure x := by intro _ _; rfl) :
    PEx C (.ListComp elt [⟨tg, iter, ifs, 0⟩] scope pos) (dLc it g t b (own.map (·.2))) := fun X W h => by
  refine pe_imp (pe_lc h.calm (by rw [h.N]; exact nd) (hi X W h) (by rw [h.N, h.sc]; exact blkOk_by ok) (fun s H cn cl fp => hg _ W0 (cxt_blk h)) (fun s H cn cl fp => ht _ W0 (cxt_blk h)) (fun s H cn cl fp => he _ W0 (cxt_blk h)) (hs X.env)) fun σ H Q => rd_lc hv
theorem psx_setLc (i : Nat) {y : Str} {py spos : Pos} (nd : C.N.Nodup) (hy : C.N[i]? = some y) (hyl : C.sc.names.lookup y = some .local) (hi : PIx C tg iter it) (ok : blkC C.N C.sc scope own = true) (hg : PGx (C.blk scope) tg vs g) (ht : PTsx (C.blk scope) ifs t) (he : PEx (C.blk scope) elt b) (hv : ∀ j ∈ vs, j ∈ own.map (·.2))
    (hk : C.sc.kind = .function) (hl : (py.line == pos.line) = true) (ha : (scope.names.any fun (n, k) => n == y && (k == .local || k == .cell)) = false) (hs : ∀ env x, foldedSetIterable iter env x = pure x := by intro _ _; rfl) :
    PSx C (.Assign [.Name y py] (.ListComp elt [⟨tg, iter, ifs, 0⟩] scope pos) spos) (sAsg (dLc it g t b (own.map (·.2))) (gNm i)) := fun X W h => by
  refine ps_imp (ps_setLc (i := i) h.calm (by rw [h.N]; exact nd) (by rw [h.N]; exact hy) (by rw [h.sc]; exact hyl) (sw_true (by rw [h.sc]; exact hk) (by rw [h.sc]; exact hyl) hl ha) (hi X W h) (by rw [h.N, h.sc]; exact blkOk_by ok) (fun s H cn cl fp => hg _ W0 (cxt_blk h)) (fun s H cn cl fp => ht _ W0 (cxt_blk h)) (fun s H cn cl fp => he _ W0 (cxt_blk h)) (hs X.env)) fun D σ H ⟨φ, S, env, R, E, P⟩ => ?_
  refine rd_lc hv ⟨φ, S, env, R, E, (pst_err P.bind).imp fun φ1 H1 S1 x n1 R1 P1 v1 r1 => ?_⟩
  exact (Pst.now P1 R1 : FlP C.G D φ1 H1 (.nx _)) _ ((E.nxt n1).set r1)
end
end Z

namespace Z
open PySem PySem.Spec PyProof.Rows L2

abbrev Bf := List D → Store → Option (D × Store)
def rdB (G : Glo) (f : Bf) : List V → Hp → VK → Prop := fun vs H Q => ∃ φ S ds, Rel G φ S H ∧ VRels G φ H ds vs ∧ PstV G φ H Q (f ds S)
def CallRx (C : Cp) (v : Value) (f : Bf) : Prop := ∀ X W, Cxt C W X → CallR X v (rdB C.G f)
def dCallB (f : Bf) (r : DA) : DE := fun env S => (r env S).bind fun xs S1 => ofO (f xs S1)
theorem CallRx.imp {C : Cp} {v : Value} {f : Bf} (r : Cx → List V → Hp → VK → Prop) (h : ∀ X W, Cxt C W X → CallR X v (r X)) (k : ∀ X W, Cxt C W X → ∀ φ S H ds vs Q, Rel C.G φ S H → VRels C.G φ H ds vs → PstV C.G φ H Q (f ds S) → r X vs H Q) : CallRx C v f :=
  fun X W hx pins s σ H vs us Q I rx ⟨φ, S, ds, R, r1, P⟩ => h X W hx pins s σ H vs us Q I rx (k X W hx φ S H ds vs Q R r1 P)
def orB (a b : Bf) : Bf := fun ds S => match a ds S with
  | some r => some r
  | none => b ds S
theorem CallRx.or {C : Cp} {v : Value} {a b : Bf} (ha : CallRx C v a) (hb : CallRx C v b) : CallRx C v (orB a b) :=
  fun X W hx pins s σ H vs us Q I rx ⟨φ, S, ds, R, r1, P⟩ => by
    unfold orB at P
    cases q : a ds S with
    | some r => rw [q] at P; exact ha X W hx pins s σ H vs us Q I rx ⟨φ, S, ds, R, r1, by rw [q]; exact P⟩
    | none => rw [q] at P; exact hb X W hx pins s σ H vs us Q I rx ⟨φ, S, ds, R, r1, P⟩
section
variable {C : Cp} {x : Str} {e : Expr} {es : List Expr} {dr : DA} {p pos : Pos} {f : Bf} {id T : String}
theorem rd_callB {G : Glo} {W : WX} {σ : St} {H : Hp} {Q : VK} (h : rdE G W (dCallB f dr) σ H Q) : tCB (rdB G f) (rdA G W dr) σ H Q := by
  obtain ⟨φ, S, env, R, E, P⟩ := h
  exact ⟨φ, S, env, R, E, P.bind.imp fun φ1 H1 S1 xs n1 R1 P1 vs rs => ⟨φ1, S1, xs, R1, rs, PstV.of P1⟩⟩
theorem pex_callB (hc : CallRx C (.builtin id) f) (hg : glB C x = true) (hm : C.G.mg x = none) (hv : bootBuiltins x = some (.builtin id)) (ha : PAx C (e :: es) dr) (hn : x ≠ "__name__" := by decide +kernel) (hdb : (x == ("__debug__" : Str)) = false := by decide +kernel)
    (he : ∀ env, starEach (e :: es) env = (false, eval e env) :: starEach es env := by intro _; rfl) (hpl : ∀ env, (backTo pos (starEach es env)).any (·.1) = false := by intro _; rfl) : PEx C (.Call (.Name x p) (e :: es) [] pos) (dCallB f dr) := fun X W h =>
  pe_imp (pe_callB (hc X W h) (glB_ok hg h) (by rw [h.mg]; exact hm) hv (ha X W h) hn hdb (he X.env) (hpl X.env)) fun _ _ _ => rd_callB
theorem pex_callTy (hc : CallRx C (.type T) f) (hg : glB C x = true) (hm : C.G.mg x = none) (hv : bootBuiltins x = some (.type T)) (ha : PAx C (e :: es) dr) (hn : x ≠ "__name__" := by decide +kernel) (hdb : (x == ("__debug__" : Str)) = false := by decide +kernel)
    (he : ∀ env, starEach (e :: es) env = (false, eval e env) :: starEach es env := by intro _; rfl) (hpl : ∀ env, (backTo pos (starEach es env)).any (·.1) = false := by intro _; rfl) : PEx C (.Call (.Name x p) (e :: es) [] pos) (dCallB f dr) := fun X W h =>
  pe_imp (pe_callTy (hc X W h) (glB_ok hg h) (by rw [h.mg]; exact hm) hv (ha X W h) hn hdb (he X.env) (hpl X.env)) fun _ _ _ => rd_callB
end
theorem rels1 {G : Glo} {φ : List Addr} {H : Hp} {d : D} {vs : List V} (h : VRels G φ H [d] vs) : ∃ v, vs = [v] ∧ VRel G φ H d v := by
  simp only [VRels] at h
  obtain ⟨u, us, e, r, rfl⟩ := h
  exact ⟨u, e, r⟩
theorem rels2 {G : Glo} {φ : List Addr} {H : Hp} {d e : D} {vs : List V} (h : VRels G φ H [d, e] vs) : ∃ v w, vs = [v, w] ∧ VRel G φ H d v ∧ VRel G φ H e w := by
  simp only [VRels] at h
  obtain ⟨u, us, e1, r, w, us', rfl, r', rfl⟩ := h
  exact ⟨u, w, e1, r, r'⟩
def b1 (f : D → Store → Option (D × Store)) : Bf := fun ds S => match ds with
  | [d] => f d S
  | _ => none
def b2 (f : D → D → Store → Option (D × Store)) : Bf := fun ds S => match ds with
  | [d, e] => f d e S
  | _ => none
theorem b1_some {f : D → Store → Option (D × Store)} {G : Glo} {φ : List Addr} {H : Hp} {Q : VK} {ds : List D} {S : Store} {vs : List V} (h : PstV G φ H Q (b1 f ds S)) (r : VRels G φ H ds vs) : ∃ d v, vs = [v] ∧ VRel G φ H d v ∧ PstV G φ H Q (f d S) := by
  unfold b1 at h
  split at h
  · obtain ⟨v, e, q⟩ := rels1 r
    exact ⟨_, v, e, q, h⟩
  · exact h.elim
theorem b2_some {f : D → D → Store → Option (D × Store)} {G : Glo} {φ : List Addr} {H : Hp} {Q : VK} {ds : List D} {S : Store} {vs : List V} (h : PstV G φ H Q (b2 f ds S)) (r : VRels G φ H ds vs) : ∃ d e v w, vs = [v, w] ∧ VRel G φ H d v ∧ VRel G φ H e w ∧ PstV G φ H Q (f d e S) := by
  unfold b2 at h
  split at h
  · obtain ⟨v, w, e, q, q'⟩ := rels2 r
    exact ⟨_, _, v, w, e, q, q', h⟩
  · exact h.elim

def fAbs : D → Store → Option (D × Store) := fun d S => match d with
  | .int i => some (.int (if i < 0 then -i else i), S)
  | _ => none
def fMax2 : D → D → Store → Option (D × Store) := oInt (fun _ _ => true) fun i j => .int (if j > i then j else i)
def fMin2 : D → D → Store → Option (D × Store) := oInt (fun _ _ => true) fun i j => .int (if j < i then j else i)
def fInt : D → Store → Option (D × Store) := fun d S => match d with
  | .int i => some (.int i, S)
  | .bl b => some (.int (if b = true then 1 else 0), S)
  | _ => none
def fLen : D → Store → Option (D × Store) := fun d S => match d with
  | .str x => if x.length ≤ sl then some (.int x.length, S) else none
  | .tup ds => some (.int ds.length, S)
  | .fls ds => some (.int ds.length, S)
  | .ref i => match S[i]? with
    | some (.lst ds) => some (.int ds.length, S)
    | _ => none
  | _ => none
def itemsD (S : Store) : D → Option (List D)
  | .tup ds => some ds
  | .fls ds => some ds
  | .ref i => match S[i]? with
    | some (.lst ds) => some ds
    | _ => none
  | _ => none
theorem items_seq {G : Glo} {φ : List Addr} {S : Store} {H : Hp} (R : Rel G φ S H) {d : D} {v : V} (r : VRel G φ H d v) {ds : List D} (h : itemsD S d = some ds) : ∃ a vs, v = .ref a ∧ (SqL G.K H a vs ∨ SqT G.K H a vs) ∧ VRels G φ H ds vs := by
  cases d with
  | tup es =>
    cases h
    simp only [VRel] at r
    obtain ⟨a, vs, e, q, rs⟩ := r
    exact ⟨a, vs, e, .inr q, rs⟩
  | fls es =>
    cases h
    simp only [VRel] at r
    obtain ⟨a, vs, e, q, rs⟩ := r
    exact ⟨a, vs, e, .inl q.sq, rs⟩
  | ref i =>
    simp only [itemsD] at h
    split at h
    · rename_i es e
      cases h
      obtain ⟨a, vs, e, q, rs, _⟩ := sq_lst R r e
      exact ⟨a, vs, e, .inl (SqL.of q), rs⟩
    · cases h
  | _ => cases h
def itemsL (S : Store) : D → Option (List D)
  | .fls ds => some ds
  | .ref i => match S[i]? with
    | some (.lst ds) => some ds
    | _ => none
  | _ => none
theorem items_lst {G : Glo} {φ : List Addr} {S : Store} {H : Hp} (R : Rel G φ S H) {d : D} {v : V} (r : VRel G φ H d v) {ds : List D} (h : itemsL S d = some ds) : ∃ a vs, v = .ref a ∧ SqL G.K H a vs ∧ VRels G φ H ds vs := by
  cases d with
  | fls es =>
    cases h
    simp only [VRel] at r
    obtain ⟨a, vs, e, q, rs⟩ := r
    exact ⟨a, vs, e, q.sq, rs⟩
  | ref i =>
    simp only [itemsL] at h
    split at h
    · rename_i es e
      cases h
      obtain ⟨a, vs, e, q, rs, _⟩ := sq_lst R r e
      exact ⟨a, vs, e, SqL.of q, rs⟩
    · cases h
  | _ => cases h
def fList : D → Store → Option (D × Store) := fun d S => (itemsD S d).map fun ds => (.ref S.length, S ++ [.lst ds])
def fTuple : D → Store → Option (D × Store) := fun d S => (itemsD S d).map fun ds => (.tup ds, S)
def intsOf : List D → Option (List Int)
  | [] => some []
  | .int i :: r => (intsOf r).map (i :: ·)
  | _ :: _ => none
def blsOf : List D → Option (List Bool)
  | [] => some []
  | .bl b :: r => (blsOf r).map (b :: ·)
  | _ :: _ => none
theorem intsOf_eq : ∀ {ds : List D} {ns : List Int}, intsOf ds = some ns → ds = ns.map D.int
  | [], _, h => by cases h; rfl
  | .int i :: r, ns, h => by
    simp only [intsOf, Option.map_eq_some_iff] at h
    obtain ⟨ms, e, rfl⟩ := h
    rw [intsOf_eq e]; rfl
  | .non :: _, _, h => by cases h
  | .bl _ :: _, _, h => by cases h
  | .str _ :: _, _, h => by cases h
  | .tup _ :: _, _, h => by cases h
  | .ref _ :: _, _, h => by cases h
  | .st _ :: _, _, h => by cases h
  | .ty _ :: _, _, h => by cases h
  | .fls _ :: _, _, h => by cases h
@[simp] theorem intsOf_map : ∀ ns : List Int, intsOf (ns.map D.int) = some ns
  | [] => rfl
  | n :: ns => by simp [intsOf, intsOf_map ns]
theorem blsOf_eq : ∀ {ds : List D} {ns : List Bool}, blsOf ds = some ns → ds = ns.map D.bl
  | [], _, h => by cases h; rfl
  | .bl i :: r, ns, h => by
    simp only [blsOf, Option.map_eq_some_iff] at h
    obtain ⟨ms, e, rfl⟩ := h
    rw [blsOf_eq e]; rfl
  | .non :: _, _, h => by cases h
  | .int _ :: _, _, h => by cases h
  | .str _ :: _, _, h => by cases h
  | .tup _ :: _, _, h => by cases h
  | .ref _ :: _, _, h => by cases h
  | .st _ :: _, _, h => by cases h
  | .ty _ :: _, _, h => by cases h
  | .fls _ :: _, _, h => by cases h
@[simp] theorem blsOf_map : ∀ ns : List Bool, blsOf (ns.map D.bl) = some ns
  | [] => rfl
  | n :: ns => by simp [blsOf, blsOf_map ns]
theorem rel_ints {G : Glo} {φ : List Addr} {H : Hp} : ∀ {ns : List Int} {vs : List V}, VRels G φ H (ns.map D.int) vs → vs = ns.map V.int
  | [], _, h => by simpa [VRels] using h
  | n :: ns, _, h => by
    simp only [List.map_cons, VRels, VRel] at h
    obtain ⟨u, us, rfl, rfl, rs⟩ := h
    rw [rel_ints rs]; rfl
theorem ints_rel {G : Glo} {φ : List Addr} {H : Hp} : ∀ (ns : List Int), VRels G φ H (ns.map D.int) (ns.map V.int)
  | [] => by simp [VRels]
  | n :: ns => by
    rw [List.map_cons, List.map_cons]
    exact VRels.cons (by simp only [VRel]) (ints_rel ns)
theorem rel_bls {G : Glo} {φ : List Addr} {H : Hp} : ∀ {ns : List Bool} {vs : List V}, VRels G φ H (ns.map D.bl) vs → vs = ns.map V.bl
  | [], _, h => by simpa [VRels] using h
  | n :: ns, _, h => by
    simp only [List.map_cons, VRels, VRel] at h
    obtain ⟨u, us, rfl, rfl, rs⟩ := h
    rw [rel_bls rs]; rfl
def fAll : D → Store → Option (D × Store) := fun d S => ((itemsL S d).bind blsOf).map fun bs => (.bl (bs.all id), S)
section
variable {C : Cp}
theorem cx_abs : CallRx C (.builtin "abs") (b1 fAbs) := CallRx.imp (fun _ => _) (fun _ _ _ => call_abs) fun X W hx φ S H ds vs Q R r P => by
  obtain ⟨d, v, rfl, rv, P⟩ := b1_some P r
  unfold fAbs at P
  split at P
  · simp only [VRel] at rv; subst rv
    exact ⟨_, rfl, P.now R (by simp only [VRel])⟩
  · exact P.elim
theorem cx_max2 : CallRx C (.builtin "max") (b2 fMax2) := CallRx.imp (fun _ => _) (fun _ _ hx => call_max2 hx.calm) fun X W hx φ S H ds vs Q R r P => by
  obtain ⟨d, e, v, w, rfl, rv, rw', P⟩ := b2_some P r
  obtain ⟨i, j, rfl, rfl, _, P⟩ := oInt_some P
  simp only [VRel] at rv rw'; subst rv rw'
  exact ⟨_, _, rfl, P.now R (by simp only [VRel])⟩
theorem cx_min2 : CallRx C (.builtin "min") (b2 fMin2) := CallRx.imp (fun _ => _) (fun _ _ hx => call_min2 hx.calm) fun X W hx φ S H ds vs Q R r P => by
  obtain ⟨d, e, v, w, rfl, rv, rw', P⟩ := b2_some P r
  obtain ⟨i, j, rfl, rfl, _, P⟩ := oInt_some P
  simp only [VRel] at rv rw'; subst rv rw'
  exact ⟨_, _, rfl, P.now R (by simp only [VRel])⟩
theorem cx_int : CallRx C (.type "int") (b1 fInt) := CallRx.imp (fun _ => _) (fun _ _ _ => call_int1) fun X W hx φ S H ds vs Q R r P => by
  obtain ⟨d, v, rfl, rv, P⟩ := b1_some P r
  unfold fInt at P
  split at P
  · simp only [VRel] at rv; subst rv
    exact .inl ⟨_, rfl, P.now R (by simp only [VRel])⟩
  · simp only [VRel] at rv; subst rv
    exact .inr ⟨_, rfl, P.now R (by simp only [VRel])⟩
  · exact P.elim
theorem cx_len : CallRx C (.builtin "len") (b1 fLen) := CallRx.imp (fun _ => _) (fun _ _ _ => call_len) fun X W hx φ S H ds vs Q R r P => by
  obtain ⟨d, v, rfl, rv, P⟩ := b1_some P r
  rw [hx.K]
  cases d with
  | str x =>
    simp only [fLen] at P
    split at P
    · simp only [VRel] at rv; subst rv
      exact ⟨_, _, rfl, ⟨by rw [sl_eq]; assumption, rfl⟩, P.now R (by simp only [VRel])⟩
    · exact P.elim
  | tup es =>
    simp only [fLen] at P
    simp only [VRel] at rv
    obtain ⟨a, us, rfl, q, rs⟩ := rv
    exact ⟨_, _, rfl, .inr ⟨us, q, rfl⟩, by rw [← rs.length]; exact P.now R (by simp only [VRel])⟩
  | fls es =>
    simp only [fLen] at P
    simp only [VRel] at rv
    obtain ⟨a, us, rfl, q, rs⟩ := rv
    exact ⟨_, _, rfl, .inl ⟨us, q.sq, rfl⟩, by rw [← rs.length]; exact P.now R (by simp only [VRel])⟩
  | ref i =>
    simp only [fLen] at P
    split at P
    · rename_i es e
      obtain ⟨a, us, rfl, q, rs, _⟩ := sq_lst R rv e
      exact ⟨_, _, rfl, .inl ⟨us, SqL.of q, rfl⟩, by rw [← rs.length]; exact P.now R (by simp only [VRel])⟩
    · exact P.elim
  | _ => exact P.elim
theorem cx_list : CallRx C (.type "list") (b1 fList) := CallRx.imp (fun _ => _) (fun _ _ _ => call_list_of) fun X W hx φ S H ds vs Q R r P => by
  obtain ⟨d, v, rfl, rv, P⟩ := b1_some P r
  unfold fList at P
  cases q : itemsD S d with
  | none => rw [q] at P; exact P.elim
  | some es =>
    rw [q] at P
    obtain ⟨a, us, rfl, s, rs⟩ := items_seq R rv q
    rw [hx.K]
    exact ⟨a, us, rfl, s, fun l hl => PstV.lst P R rs hl⟩
theorem cx_tuple : CallRx C (.type "tuple") (b1 fTuple) := CallRx.imp (fun _ => _) (fun _ _ _ => call_tuple_of) fun X W hx φ S H ds vs Q R r P => by
  obtain ⟨d, v, rfl, rv, P⟩ := b1_some P r
  unfold fTuple at P
  cases q : itemsD S d with
  | none => rw [q] at P; exact P.elim
  | some es =>
    rw [q] at P
    rw [hx.K]
    cases d with
    | tup fs =>
      cases q
      have rv' := rv
      simp only [VRel] at rv
      obtain ⟨a, us, rfl, s, rs⟩ := rv
      exact ⟨a, us, rfl, .inr ⟨s, P.now R rv'⟩⟩
    | fls fs =>
      cases q
      simp only [VRel] at rv
      obtain ⟨a, us, rfl, s, rs⟩ := rv
      exact ⟨a, us, rfl, .inl ⟨s.sq, fun l hl => PstV.tup P R rs hl⟩⟩
    | ref i =>
      simp only [itemsD] at q
      split at q
      · rename_i fs e
        cases q
        obtain ⟨a, us, rfl, s, rs, _⟩ := sq_lst R rv e
        exact ⟨a, us, rfl, .inl ⟨SqL.of s, fun l hl => PstV.tup P R rs hl⟩⟩
      · cases q
    | _ => cases q
theorem ints_lst {φ : List Addr} {S : Store} {H : Hp} (R : Rel C.G φ S H) {d : D} {v : V} (r : VRel C.G φ H d v) {ns : List Int} (h : (itemsL S d).bind intsOf = some ns) : ∃ a, v = .ref a ∧ SqL C.G.K H a (ns.map V.int) := by
  obtain ⟨es, q, e⟩ := Option.bind_eq_some_iff.mp h
  obtain ⟨a, us, rfl, s, rs⟩ := items_lst R r q
  rw [intsOf_eq e] at rs
  rw [rel_ints rs] at s
  exact ⟨a, rfl, s⟩
theorem bls_lst {φ : List Addr} {S : Store} {H : Hp} (R : Rel C.G φ S H) {d : D} {v : V} (r : VRel C.G φ H d v) {ns : List Bool} (h : (itemsL S d).bind blsOf = some ns) : ∃ a, v = .ref a ∧ SqL C.G.K H a (ns.map V.bl) := by
  obtain ⟨es, q, e⟩ := Option.bind_eq_some_iff.mp h
  obtain ⟨a, us, rfl, s, rs⟩ := items_lst R r q
  rw [blsOf_eq e] at rs
  rw [rel_bls rs] at s
  exact ⟨a, rfl, s⟩
theorem cx_all : CallRx C (.builtin "all") (b1 fAll) := CallRx.imp (fun X => rAll X.K) (fun _ _ hx => cr_all hx.calm) fun X W hx φ S H ds vs Q R r P => by
  obtain ⟨d, v, rfl, rv, P⟩ := b1_some P r
  unfold fAll at P
  cases q : (itemsL S d).bind blsOf with
  | none => rw [q] at P; exact P.elim
  | some ns =>
    rw [q] at P
    obtain ⟨a, rfl, s⟩ := bls_lst R rv q
    rw [hx.K]
    exact ⟨a, ns, rfl, s, P.now R (by simp only [VRel])⟩
end
end Z

namespace Z
open PySem PySem.Spec PyProof.Rows L2

theorem VRels.atI {G : Glo} {φ : List Addr} {H : Hp} {ds : List D} {vs : List V} (h : VRels G φ H ds vs) {i : Int} {d : D} (e : atI ds i = some d) : ∃ v, atI vs i = some v ∧ VRel G φ H d v := by
  unfold L2.atI at e ⊢
  rw [← h.length]
  cases q : ixN ds.length i with
  | none => rw [q] at e; cases e
  | some j => rw [q] at e; exact h.get e
def oIx : Op2 := fun d e S => match e with
  | .int i => match d with
    | .str z => if z.length ≤ sl then (atI z.cps.toList i).map fun c => (.str ⟨#[c]⟩, S) else none
    | _ => (itemsD S d).bind fun ds => (atI ds i).map fun x => (x, S)
  | _ => none
section
variable {C : Cp}
theorem ixx : ∀ X W, Cxt C W X → IxR X (rdO C.G oIx) := fun X W hx value slice pins s σ H x y v u Q I rx ry ⟨φ, S, d, e, R, r1, r2, P⟩ hs => by
  unfold oIx at P
  cases e with
  | int i =>
    dsimp only at P
    simp only [VRel] at r2
    subst r2
    cases d with
    | str z =>
      simp only [VRel] at r1
      subst r1
      dsimp only at P
      split at P
      · cases q : atI z.cps.toList i with
        | none => rw [q] at P; exact P.elim
        | some c =>
          rw [q] at P
          exact ix_str value slice pins s σ H _ _ v u Q I rx ry ⟨z, i, c, rfl, rfl, by rw [sl_eq]; assumption, q, PstV.now P R (by simp only [VRel])⟩ hs
      · exact P.elim
    | _ =>
      dsimp only at P
      rename_i d0
      first
        | (cases q : itemsD S (.tup d0) with
          | none => rw [q] at P; exact P.elim
          | some ds =>
            cases q
            simp only [VRel] at r1
            obtain ⟨a, vs, rfl, sq, rs⟩ := r1
            cases q2 : atI d0 i with
            | none => simp only [itemsD, Option.bind_some, q2] at P; exact P.elim
            | some w =>
              simp only [itemsD, Option.bind_some, q2] at P
              obtain ⟨z, ez, rz⟩ := rs.atI q2
              exact ix_tup value slice pins s σ H _ _ v u Q I rx ry ⟨a, vs, i, z, rfl, rfl, by rw [hx.K]; exact sq, ez, PstV.now P R rz⟩ hs)
        | skip
      all_goals first
        | (cases q : itemsL S (.fls d0) with
          | none => cases q
          | some ds =>
            cases q
            simp only [VRel] at r1
            obtain ⟨a, vs, rfl, sq, rs⟩ := r1
            cases q2 : atI d0 i with
            | none => simp only [itemsD, Option.bind_some, q2] at P; exact P.elim
            | some w =>
              simp only [itemsD, Option.bind_some, q2] at P
              obtain ⟨z, ez, rz⟩ := rs.atI q2
              exact ix_list value slice pins s σ H _ _ v u Q I rx ry ⟨a, vs, i, z, rfl, rfl, by rw [hx.K]; exact sq.sq, ez, PstV.now P R rz⟩ hs)
        | skip
      all_goals first
        | (cases q : itemsD S (.ref d0) with
          | none => rw [q] at P; exact P.elim
          | some ds =>
            rw [q] at P
            obtain ⟨a, vs, rfl, sq, rs⟩ := items_lst R r1 (show itemsL S (.ref d0) = some ds from q)
            cases q2 : atI ds i with
            | none => simp only [Option.bind_some, q2] at P; exact P.elim
            | some w =>
              simp only [Option.bind_some, q2] at P
              obtain ⟨z, ez, rz⟩ := rs.atI q2
              exact ix_list value slice pins s σ H _ _ v u Q I rx ry ⟨a, vs, i, z, rfl, rfl, by rw [hx.K]; exact sq, ez, PstV.now P R rz⟩ hs)
        | exact P.elim
  | _ => exact P.elim
end
section
variable {C : Cp} {a b : Expr} {da db : DE} {pos : Pos}
theorem pex_ix (ha : PEx C a da) (hb : PEx C b db) (hs : PlainIx b := by intro _ _; rfl) : PEx C (.Subscript a b pos) (dBin oIx da db) := fun X W h => pe_imp (pe_ix (ixx X W h) (ha X W h) (hb X W h) hs) fun _ _ _ => rd_bin
end

abbrev DP := En → Store → Res (Option Int)
def pNo : DP := fun _ S => .ok none S
def pAt (a : DE) : DP := fun env S => (a env S).bind fun x S1 => match x with
  | .int i => .ok (some i) S1
  | _ => .bad
def cutD {α : Type} (xs : List α) (lo hi : Option Int) : List α := (xs.drop (HT.sIx xs.length 0 lo)).take (HT.sIx xs.length xs.length hi - HT.sIx xs.length 0 lo)
def oSl (d : D) (lo hi : Option Int) (S : Store) : Option (D × Store) := match d with
  | .str z => if z.length ≤ sl then some (.str (cutS z lo hi), S) else none
  | .tup ds => some (.tup (cutD ds lo hi), S)
  | d => (itemsL S d).map fun ds => (.ref S.length, S ++ [.lst (cutD ds lo hi)])
def dSl (a : DE) (lo hi : DP) : DE := fun env S => (a env S).bind fun x S1 => (lo env S1).bind fun l S2 => (hi env S2).bind fun h S3 => ofO (oSl x l h S3)
section
variable {C : Cp} {a b : Expr} {da db : DE} {pos p2 : Pos} {lo hi : Option Expr} {dl dh : DP}
end

def setD (o i d : D) (S : Store) : Option Store := match o, i with
  | .ref r, .int k => match S[r]? with
    | some (.lst ds) => (ixN ds.length k).map fun j => S.set r (.lst (ds.set j d))
    | _ => none
  | _, _ => none
def ofS (o : Option Store) (env : En) : Res En := match o with
  | some S => .ok env S
  | none => .bad
@[simp] theorem ofS_some (S : Store) (env : En) : ofS (some S) env = .ok env S := rfl
def gSb (o i : DE) : DG := fun d env S => (o env S).bind fun x S1 => (i env S1).bind fun y S2 => ofS (setD x y d S2) env
def rdSet (G : Glo) : TSet := fun o i v H Q => ∃ φ S x y d, Rel G φ S H ∧ VRel G φ H x o ∧ VRel G φ H y i ∧ VRel G φ H d v ∧ match setD x y d S with
  | some S' => ∀ φ' H', Nxt φ φ' H H' → Rel G φ' S' H' → Q H'
  | none => False
section
variable {C : Cp} {a b e : Expr} {da db de : DE} {pos : Pos}
theorem setx : ∀ X W, Cxt C W X → PSet X (rdSet C.G) := fun X W hx pins s σ H o i v ov iv u Q I r1 r2 r3 ⟨φ, S, x, y, d, R, q1, q2, q3, P⟩ => by
  cases hS : setD x y d S with
  | none => rw [hS] at P; exact P.elim
  | some S' =>
    rw [hS] at P
    unfold setD at hS
    split at hS
    · rename_i r k
      split at hS
      · rename_i ds e
        simp only [Option.map_eq_some_iff] at hS
        obtain ⟨j, hj, rfl⟩ := hS
        obtain ⟨p, vs, rfl, q, rs, hp⟩ := sq_lst R q1 e
        simp only [VRel] at q2
        subst q2
        refine set_list pins s σ H _ _ v ov iv u Q I r1 r2 r3 ⟨p, vs, k, j, rfl, rfl, q, by rw [← rs.length]; exact hj, ?_⟩
        have n0 : Nxt φ φ H (upd H p (.lst (vs.set j v))) := Nxt.mut q trivial (List.mem_of_getElem? hp)
        obtain ⟨R', n'⟩ := R.set (o' := .lst (ds.set j d)) (u := .lst (vs.set j v)) hp e ⟨_, upd_same, (rs.set j q3).nxt n0⟩
        exact P φ _ n' R'
      · cases hS
    · cases hS
theorem pgx_sb (ha : PEx C a da) (hb : PEx C b db) (hs : ∀ env v, assign (.Subscript a b pos) env v = (do
      let ov ← holding [v] (eval a env)
      let iv ← holding [v, ov] (eval b env)
      standAt pos
      holding [v, ov, iv] (setItem ov iv v)
      release [v, ov, iv] []) := by intro _ _; rfl) : PGx C (.Subscript a b pos) [] (gSb da db) := fun X W h => by
  refine pg_imp (pg_sub (ha X W h) (hb X W h) (setx X W h) (hs X.env)) fun v σ H Q ⟨φ, S, env, d, R, E, r, P⟩ => ?_
  refine ⟨φ, S, env, R, E, (pst_err P.bind).imp fun φ1 H1 S1 x n1 R1 P1 v1 r1 => ?_⟩
  refine ⟨φ1, S1, env, R1, E.nxt n1, (pst_err P1.bind).imp fun φ2 H2 S2 y n2 R2 P2 v2 r2 => ?_⟩
  refine ⟨φ2, S2, x, y, d, R2, r1.nxt n2, r2, (r.nxt n1).nxt n2, ?_⟩
  cases q : setD x y d S2 with
  | none => rw [q] at P2; exact P2.elim
  | some S3 =>
    rw [q] at P2
    exact fun φ3 H3 n3 R3 => P2 φ3 H3 n3 R3 σ (((E.nxt n1).nxt n2).nxt n3) rfl fun _ _ => rfl
def sAug (i : Nat) (op : Op2) (a : DE) : DS := fun env S => match env[i]? with
  | some (some d) => (a env S).bind fun x S1 => (ofO (op d x S1)).bind fun y S2 => .ok (.nx (env.set i (some y))) S2
  | _ => .bad
theorem psx_aug (i : Nat) {o : Operator} {op : Op2} {x : Str} {px : Pos} (nd : C.N.Nodup) (hN : C.N[i]? = some x) (hl : locB C x = true) (ho : OpRx C (inplaceOp o) op) (ha : PEx C a da) : PSx C (.AugAssign (.Name x px) o a pos) (sAug i op da) := fun X W h => by
  obtain ⟨l1, l2⟩ := locB_ok hl h
  refine ps_imp (ps_aug (X := X) (i := i) (ti := rdO C.G op) (by rw [h.N]; exact nd) (by rw [h.N]; exact hN) l1 (ha X W h) (ho X W h) l2) fun D σ H ⟨φ, S, env, R, E, P⟩ => ?_
  unfold sAug at P
  split at P
  · rename_i d e
    obtain ⟨v, hv, r⟩ := E.2 i d e
    refine ⟨v, hv, φ, S, env, R, E, (pst_err P.bind).imp fun φ1 H1 S1 x n1 R1 P1 v1 r1 => ?_⟩
    refine ⟨φ1, S1, d, x, R1, r.nxt n1, r1, ?_⟩
    cases q : op d x S1 with
    | none => rw [q] at P1; exact P1.elim
    | some p =>
      obtain ⟨y, S2⟩ := p
      rw [q] at P1
      intro φ2 H2 n2 R2 w rw'
      exact (P1.nxt n2 |> fun P2 => (Pst.now P2 R2 : FlP C.G D φ2 H2 (.nx _))) _ (((E.nxt n1).nxt n2).set rw')
  · exact P.elim
end
def mul64 (i j : Int) : Bool := (decide (-(2 ^ 64) < i) && decide (i < 2 ^ 64)) || (decide (-(2 ^ 64) < j) && decide (j < 2 ^ 64))
def oIMul : Op2 := oInt mul64 fun i j => .int (i * j)
section
variable {C : Cp}
theorem ipx_add : OpRx C (inplaceOp .Add) oAddI := opx_int0 (fun _ _ _ => iop_add) fun _ _ _ _ => by simp only [VRel]
theorem ipx_mul : OpRx C (inplaceOp .Mult) oIMul := opx_int (fun _ _ _ => iop_mul) (fun i j h => by
  rcases Bool.or_eq_true_iff.mp h with h | h
  · obtain ⟨a, b⟩ := Bool.and_eq_true_iff.mp h
    exact .inl ⟨of_decide_eq_true a, of_decide_eq_true b⟩
  · obtain ⟨a, b⟩ := Bool.and_eq_true_iff.mp h
    exact .inr ⟨of_decide_eq_true a, of_decide_eq_true b⟩) fun _ _ _ _ => by simp only [VRel]
theorem ipx_div : OpRx C (inplaceOp .FloorDiv) oDivI := opx_int (fun _ _ _ => iop_fdivW) (fun i j h => by
  obtain ⟨a, b⟩ := Bool.and_eq_true_iff.mp h
  exact ⟨of_decide_eq_true a, of_decide_eq_true b⟩) fun _ _ _ _ => by simp only [VRel]
end
end Z

namespace Z
open PySem PySem.Spec PyProof.Rows L2

abbrev Mf := D → List D → Store → Option (D × Store)
def rdM (G : Glo) (f : Mf) : V → List V → Hp → VK → Prop := fun x vs H Q => ∃ φ S d ds, Rel G φ S H ∧ VRel G φ H d x ∧ VRels G φ H ds vs ∧ PstV G φ H Q (f d ds S)
def MtRx (C : Cp) (id : String) (f : Mf) : Prop := ∀ X W, Cxt C W X → MtR X id (rdM C.G f)
def isL (d : D) (S : Store) : Bool := match d with
  | .ref i => match S[i]? with
    | some (.lst _) => true
    | _ => false
  | _ => false
theorem isL_ok {G : Glo} {φ : List Addr} {S : Store} {H : Hp} (R : Rel G φ S H) {d : D} {v : V} (r : VRel G φ H d v) (h : isL d S = true) : tyV G.K "list" v H := by
  unfold isL at h
  split at h
  · split at h
    · rename_i i ds e
      obtain ⟨a, vs, rfl, q, _, _⟩ := sq_lst R r e
      exact .inl ⟨rfl, vs, SqL.of q⟩
    · cases h
  · cases h
def dMeth (ck : D → Store → Bool) (f : Mf) (o : DE) (r : DA) : DE := fun env S => (o env S).bind fun x S1 => if ck x S1 = true then (r env S1).bind fun xs S2 => ofO (f x xs S2) else .bad
section
variable {C : Cp} {o e : Expr} {es : List Expr} {dₒ : DE} {dr : DA} {name : Str} {id T : String} {f : Mf} {apos cpos : Pos} {ck : D → Store → Bool}
theorem pex_bm (pa : PlainAttrs T) (slot : Slot T name id) (hty : typeOf (.builtin id) = pure (.type "method_descriptor")) (hm : MtRx C id f) (hck : ∀ φ S H d v, Rel C.G φ S H → VRel C.G φ H d v → ck d S = true → tyV C.G.K T v H) (ho : PEx C o dₒ) (ha : PAx C (e :: es) dr)
    (hbase : ∀ env, attributeBase o name env (eval o env) = eval o env := by intro _; rfl)
    (hfew : ∀ env, ((backTo cpos (starEach (e :: es) env)).all (fun x => !x.1) && (backToKw cpos (keywordEach [] env)).all (fun x => x.1.isSome)
      && decide ((e :: es).length + ([] : List Keyword).length + (if ([] : List Keyword).isEmpty then 0 else 1) < 30)) = true := by intro _; rfl)
    (hline : (apos.endLine == cpos.line) = true := by rfl) (hs : ∀ env, starEach (e :: es) env = (false, eval e env) :: starEach es env := by intro _; rfl) (hplain : ∀ env, (backTo cpos (starEach es env)).any (·.1) = false := by intro _; rfl) :
    PEx C (.Call (.Attribute o name apos) (e :: es) [] cpos) (dMeth ck f dₒ dr) := fun X W h => by
  refine pe_imp (pe_bm pa slot hty (hm X W h) (ho X W h) (ha X W h) (hbase X.env) (hfew X.env) hline (hs X.env) (hplain X.env)) fun σ H Q ⟨φ, S, env, R, E, P⟩ => ?_
  refine ⟨φ, S, env, R, E, P.bind.imp fun φ1 H1 S1 x n1 R1 P1 v1 r1 => ?_⟩
  split at P1
  · rename_i hc
    rw [h.K]
    refine ⟨hck φ1 S1 H1 x v1 R1 r1 hc, φ1, S1, env, R1, E.nxt n1, P1.bind.imp fun φ2 H2 S2 xs n2 R2 P2 vs rs => ?_⟩
    exact ⟨φ2, S2, x, xs, R2, r1.nxt n2, rs, PstV.of P2⟩
  · exact P1.elim
end
def onL (d : D) (S : Store) (k : Nat → List D → Option (D × Store)) : Option (D × Store) := match d with
  | .ref i => match S[i]? with
    | some (.lst ds) => k i ds
    | _ => none
  | _ => none
theorem onL_some {G : Glo} {φ : List Addr} {S : Store} {H : Hp} {Q : VK} {d : D} {k : Nat → List D → Option (D × Store)} (h : PstV G φ H Q (onL d S k)) : ∃ i ds, d = .ref i ∧ S[i]? = some (.lst ds) ∧ PstV G φ H Q (k i ds) := by
  unfold onL at h
  split at h
  · split at h
    · exact ⟨_, _, rfl, by assumption, h⟩
    · exact h.elim
  · exact h.elim
theorem PstV.put {G : Glo} {φ : List Addr} {S : Store} {H : Hp} {Q : VK} {i : Nat} {ds ds' : List D} {r : D} {p : Addr} {vs vs' : List V} {v : V} (h : PstV G φ H Q (some (r, S.set i (.lst ds')))) (R : Rel G φ S H) (e : S[i]? = some (.lst ds)) (hp : φ[i]? = some p) (q : H p = some (.lst vs)) (rs : VRels G φ H ds' vs') (rv : VRel G φ H r v) : Q v (upd H p (.lst vs')) := by
  have n0 : Nxt φ φ H (upd H p (.lst vs')) := Nxt.mut q trivial (List.mem_of_getElem? hp)
  obtain ⟨R', n'⟩ := R.set (o' := .lst ds') (u := .lst vs') hp e ⟨_, upd_same, rs.nxt n0⟩
  exact h φ _ n' R' v (rv.nxt n')
def mAppend : Mf := fun d xs S => match xs with
  | [x] => onL d S fun i ds => if ds.length < sl then some (.non, S.set i (.lst (ds ++ [x]))) else none
  | _ => none
def mExtend : Mf := fun d xs S => match xs with
  | [.ref j] => onL d S fun i ds => match S[j]? with
    | some (.lst es) => if ds.length + es.length ≤ sl then some (.non, S.set i (.lst (ds ++ es))) else none
    | _ => none
  | _ => none
section
variable {C : Cp}
theorem mtx_append : MtRx C "list.append" mAppend := fun X W hx pins s σ H x vs v us Q I r1 r2 ⟨φ, S, d, ds, R, q1, q2, P⟩ => by
  unfold mAppend at P
  split at P
  · rename_i y
    obtain ⟨i, es, rfl, e, P⟩ := onL_some P
    obtain ⟨p, ws, rfl, q, rs, hp⟩ := sq_lst R q1 e
    obtain ⟨w, rfl, rw'⟩ := rels1 q2
    split at P
    · exact mt_append pins s σ H _ _ v us Q I r1 r2 ⟨p, ws, w, rfl, rfl, q, by rw [sl_eq, ← rs.length]; assumption, P.put R e hp q (rs.append (VRels.cons rw' VRels.nil)) (by simp only [VRel])⟩
    · exact P.elim
  · exact P.elim
theorem mtx_extend : MtRx C "list.extend" mExtend := fun X W hx pins s σ H x vs v us Q I r1 r2 ⟨φ, S, d, ds, R, q1, q2, P⟩ => by
  unfold mExtend at P
  split at P
  · rename_i j
    obtain ⟨i, es, rfl, e, P⟩ := onL_some P
    obtain ⟨p, ws, rfl, q, rs, hp⟩ := sq_lst R q1 e
    obtain ⟨w, rfl, rw'⟩ := rels1 q2
    split at P
    · rename_i fs ef
      obtain ⟨b, ts, rfl, q', rs', _⟩ := sq_lst R rw' ef
      split at P
      · exact mt_extend pins s σ H _ _ v us Q I r1 r2 ⟨p, b, ws, ts, rfl, rfl, q, q', by rw [sl_eq, ← rs.length, ← rs'.length]; assumption, P.put R e hp q (rs.append rs') (by simp only [VRel])⟩
      · exact P.elim
    · exact P.elim
  · exact P.elim
variable {o e : Expr} {dₒ de : DE} {apos cpos : Pos}
theorem hckL : ∀ φ S H d v, Rel C.G φ S H → VRel C.G φ H d v → isL d S = true → tyV C.G.K "list" v H := fun φ S H d v R r h => isL_ok R r h
end
def strsOf : List D → Option (List Str)
  | [] => some []
  | .str i :: r => (strsOf r).map (i :: ·)
  | _ :: _ => none
theorem strsOf_eq : ∀ {ds : List D} {ns : List Str}, strsOf ds = some ns → ds = ns.map D.str
  | [], _, h => by cases h; rfl
  | .str i :: r, ns, h => by
    simp only [strsOf, Option.map_eq_some_iff] at h
    obtain ⟨ms, e, rfl⟩ := h
    rw [strsOf_eq e]; rfl
  | .non :: _, _, h => by cases h
  | .bl _ :: _, _, h => by cases h
  | .int _ :: _, _, h => by cases h
  | .tup _ :: _, _, h => by cases h
  | .ref _ :: _, _, h => by cases h
  | .st _ :: _, _, h => by cases h
  | .ty _ :: _, _, h => by cases h
  | .fls _ :: _, _, h => by cases h
@[simp] theorem strsOf_map : ∀ ns : List Str, strsOf (ns.map D.str) = some ns
  | [] => rfl
  | n :: ns => by simp [strsOf, strsOf_map ns]
theorem rel_strs {G : Glo} {φ : List Addr} {H : Hp} : ∀ {ns : List Str} {vs : List V}, VRels G φ H (ns.map D.str) vs → vs = ns.map V.str
  | [], _, h => by simpa [VRels] using h
  | n :: ns, _, h => by
    simp only [List.map_cons, VRels, VRel] at h
    obtain ⟨u, us, rfl, rfl, rs⟩ := h
    rw [rel_strs rs]; rfl
def isS (d : D) : Bool := match d with
  | .str _ => true
  | _ => false
def dMethS (f : Mf) (o a : DE) : DE := fun env S => (o env S).bind fun x S1 => if isS x = true then (a env S1).bind fun y S2 => ofO (f x [y] S2) else .bad
def mJoin : Mf := fun d xs S => match d, xs with
  | .str a, [y] => ((itemsD S y).bind strsOf).bind fun ys => if (ys.map (·.length)).sum + ys.length * a.length ≤ 16777216 then some (.str (Txt.join a ys), S) else none
  | _, _ => none
section
variable {C : Cp} {o e : Expr} {dₒ de : DE} {apos pos : Pos} {name : Str} {id : String} {f : Mf}
theorem pex_m1 (slot : Slot "str" name id) (ty : typeOf (.builtin id) = pure (.type "method_descriptor")) (hm : MtRx C id f) (ho : PEx C o dₒ) (he : PEx C e de)
    (hs : ∀ env, starEach [e] env = [(false, eval e env)] := by intro _; rfl) (hbase : ∀ env, attributeBase o name env (eval o env) = eval o env := by intro _; rfl) (hline : (apos.endLine == pos.line) = true := by rfl) :
    PEx C (.Call (.Attribute o name apos) [e] [] pos) (dMethS f dₒ de) := fun X W h => by
  refine pe_imp (pe_m1 slot ty (hm X W h) (ho X W h) (he X W h) (hs X.env) (hbase X.env) hline) fun σ H Q ⟨φ, S, env, R, E, P⟩ => ?_
  refine ⟨φ, S, env, R, E, P.bind.imp fun φ1 H1 S1 x n1 R1 P1 v1 r1 => ?_⟩
  split at P1
  · rename_i hc
    cases x with
    | str z =>
      have r1' := r1
      simp only [VRel] at r1
      refine ⟨⟨z, r1⟩, φ1, S1, env, R1, E.nxt n1, P1.bind.imp fun φ2 H2 S2 y n2 R2 P2 v2 r2 => ?_⟩
      exact ⟨φ2, S2, .str z, [y], R2, r1'.nxt n2, VRels.cons r2 VRels.nil, PstV.of P2⟩
    | _ => cases hc
  · exact P1.elim
theorem mtx_join : MtRx C "str.join" mJoin := fun X W hx pins s σ H x vs v us Q I r1 r2 ⟨φ, S, d, ds, R, q1, q2, P⟩ => by
  unfold mJoin at P
  split at P
  · rename_i a y
    obtain ⟨w, rfl, rw'⟩ := rels1 q2
    simp only [VRel] at q1
    subst q1
    cases q : (itemsD S y).bind strsOf with
    | none => rw [q] at P; exact P.elim
    | some ys =>
      rw [q] at P
      simp only [Option.bind_some] at P
      obtain ⟨es, e1, e2⟩ := Option.bind_eq_some_iff.mp q
      obtain ⟨b, ws, rfl, sq, rs⟩ := items_seq R rw' e1
      rw [strsOf_eq e2] at rs
      rw [rel_strs rs] at sq
      split at P
      · refine mt_join pins s σ H _ _ v us Q I r1 r2 ⟨a, b, ys, rfl, rfl, by rw [hx.K]; exact sq, by assumption, P.now R (by simp only [VRel])⟩
      · exact P.elim
    
  · exact P.elim
end

def flatD : D → Bool
  | .non => true
  | .bl _ => true
  | .int _ => true
  | .str _ => true
  | _ => false
def toV : D → V
  | .non => .non
  | .bl b => .bl b
  | .int i => .int i
  | .str s => .str s
  | _ => .non
theorem flat_rel {G : Glo} {φ : List Addr} {H : Hp} {d : D} {v : V} (h : flatD d = true) (r : VRel G φ H d v) : v = toV d ∧ flatV v = true := by
  cases d <;> first | (simp only [VRel] at r; subst r; exact ⟨rfl, rfl⟩) | cases h
theorem flats_rel {G : Glo} {φ : List Addr} {H : Hp} : ∀ {ds : List D} {vs : List V}, ds.all flatD = true → VRels G φ H ds vs → vs = ds.map toV ∧ vs.all flatV = true
  | [], _, _, r => by simp only [VRels] at r; subst r; exact ⟨rfl, rfl⟩
  | d :: ds, _, h, r => by
    simp only [VRels] at r
    obtain ⟨u, us, rfl, r1, rs⟩ := r
    simp only [List.all_cons, Bool.and_eq_true] at h
    obtain ⟨e1, f1⟩ := flat_rel h.1 r1
    obtain ⟨e2, f2⟩ := flats_rel h.2 rs
    exact ⟨by rw [e1, e2]; rfl, by simp [f1, f2]⟩
def inF (d : D) (ds : List D) : Bool := ds.any fun y => eqV (toV y) (toV d)
def oInF (neg : Bool) : Op2 := fun d e S => (itemsD S e).bind fun ds => if flatD d = true ∧ ds.all flatD = true then some (.bl (if neg = true then !inF d ds else inF d ds), S) else none
def oInS (neg : Bool) : Op2 := fun d e S => match d, e with
  | .str x, .str z => match x.cps.toList with
    | [c] => some (.bl (if neg = true then !decide (c ∈ z.cps.toList) else decide (c ∈ z.cps.toList)), S)
    | _ => none
  | _, _ => none
def oInD (neg : Bool) : Op2 := fun d e S => match toPy S 60 d, itemsL S e with
  | some p, some ds => (seqO (ds.map (toPy S 59))).map fun ps => (.bl (if neg = true then !(ps.any fun z => PyData.eqv z p) else ps.any fun z => PyData.eqv z p), S)
  | _, _ => none
section
variable {C : Cp}
theorem inF_eq {d : D} {ds : List D} : inF d ds = inV (toV d) (ds.map toV) := by
  unfold inF inV
  rw [List.any_map]
  rfl
theorem opx_inF {neg : Bool} {op : CmpOp} (h : ∀ X, OpR X (compareOp op) (rIn X.K neg)) : OpRx C (compareOp op) (oInF neg) := OpRx.imp (fun X => rIn X.K neg) (fun X _ _ => h X) fun X W hx φ S H d e x y Q R r1 r2 P => by
  unfold oInF at P
  cases q : itemsD S e with
  | none => rw [q] at P; exact P.elim
  | some ds =>
    rw [q] at P
    simp only [Option.bind_some] at P
    split at P
    · rename_i hc
      obtain ⟨a, vs, rfl, sq, rs⟩ := items_seq R r2 q
      obtain ⟨e1, f1⟩ := flat_rel hc.1 r1
      obtain ⟨e2, f2⟩ := flats_rel hc.2 rs
      rw [hx.K]
      refine ⟨a, vs, rfl, sq, f1, f2, ?_⟩
      rw [e1, e2, ← inF_eq]
      exact P.now R (by simp only [VRel])
    · exact P.elim
theorem opx_inS : OpRx C (compareOp .In) (oInS false) := OpRx.imp (fun _ => _) (fun _ _ _ => op_in_sign) fun X W hx φ S H d e x y Q R r1 r2 P => by
  unfold oInS at P
  split at P
  · rename_i x' z
    split at P
    · rename_i c hc
      simp only [VRel] at r1 r2
      subst r1 r2
      have : x' = ⟨#[c]⟩ := by
        have h2 : x'.cps = #[c] := by rw [← Array.toList_inj]; exact hc
        cases x'; simp_all
      subst this
      exact ⟨c, z, rfl, rfl, P.now R (by simp only [VRel]; rfl)⟩
    · exact P.elim
  · exact P.elim
theorem opx_notInS : OpRx C (compareOp .NotIn) (oInS true) := OpRx.imp (fun _ => _) (fun _ _ _ => op_notIn_sign) fun X W hx φ S H d e x y Q R r1 r2 P => by
  unfold oInS at P
  split at P
  · rename_i x' z
    split at P
    · rename_i c hc
      simp only [VRel] at r1 r2
      subst r1 r2
      have : x' = ⟨#[c]⟩ := by
        have h2 : x'.cps = #[c] := by rw [← Array.toList_inj]; exact hc
        cases x'; simp_all
      subst this
      exact ⟨c, z, rfl, rfl, P.now R (by simp only [VRel]; rfl)⟩
    · exact P.elim
  · exact P.elim
theorem lst_py {φ : List Addr} {S : Store} {H : Hp} (R : Rel C.G φ S H) {e : D} {y : V} (r : VRel C.G φ H e y) {ds : List D} (q : itemsL S e = some ds) {ps : List PyData} (qs : seqO (ds.map (toPy S 59)) = some ps) : Dp C.G.K H y (.list ps) ∧ SeqAt.shaped (.list ps) = true := by
  have key : toPy S 60 e = some (.list ps) := by
    cases e with
    | fls es => cases q; simp [toPy, qs]
    | ref i =>
      simp only [itemsL] at q
      split at q
      · rename_i es ee
        cases q
        simp [toPy, ee, qs]
      · cases q
    | _ => cases q
  obtain ⟨x1, x2, x3⟩ := sq_any R r key
  exact ⟨x1, shaped_of (by decide) x2 x3⟩
theorem opx_inD : OpRx C (compareOp .In) (oInD false) := OpRx.imp (fun X => rInD X.K) (fun X W hx => op_inD (by have := hx.room.un; omega)) fun X W hx φ S H d e x y Q R r1 r2 P => by
  unfold oInD at P
  split at P
  · rename_i p ds e1 e2
    cases qs : seqO (ds.map (toPy S 59)) with
    | none => rw [qs] at P; exact P.elim
    | some ps =>
      rw [qs] at P
      obtain ⟨x1, x2, x3⟩ := sq_any R r1 e1
      obtain ⟨y1, y2⟩ := lst_py R r2 e2 qs
      rw [hx.K]
      exact ⟨p, ps, x1, y1, shaped_of (by decide) x2 x3, y2, P.now R (by simp only [VRel]; rfl)⟩
  · exact P.elim
theorem opx_notInD : OpRx C (compareOp .NotIn) (oInD true) := OpRx.imp (fun X => rNotInD X.K) (fun X W hx => op_notInD (by have := hx.room.un; omega)) fun X W hx φ S H d e x y Q R r1 r2 P => by
  unfold oInD at P
  split at P
  · rename_i p ds e1 e2
    cases qs : seqO (ds.map (toPy S 59)) with
    | none => rw [qs] at P; exact P.elim
    | some ps =>
      rw [qs] at P
      obtain ⟨x1, x2, x3⟩ := sq_any R r1 e1
      obtain ⟨y1, y2⟩ := lst_py R r2 e2 qs
      rw [hx.K]
      exact ⟨p, ps, x1, y1, shaped_of (by decide) x2 x3, y2, P.now R (by simp only [VRel]; rfl)⟩
  · exact P.elim
def oIn : Op2 := orO (oInF false) (orO (oInS false) (oInD false))
def oNotIn : Op2 := orO (oInF true) (orO (oInS true) (oInD true))
theorem opx_in : OpRx C (compareOp .In) oIn := (opx_inF fun X => op_in_seq).or (opx_inS.or opx_inD)
theorem opx_notIn : OpRx C (compareOp .NotIn) oNotIn := (opx_inF fun X => op_notIn_seq).or (opx_notInS.or opx_notInD)
end

inductive Ty where
  | non | bl | int | str | tup | lst | dic
  deriving DecidableEq
def Ty.name : Ty → String
  | .non => "NoneType"
  | .bl => "bool"
  | .int => "int"
  | .str => "str"
  | .tup => "tuple"
  | .lst => "list"
  | .dic => "dict"
def Ty.sub : Ty → Ty → Bool
  | .bl, .int => true
  | a, b => decide (a = b)
theorem Ty.sub_ok (a b : Ty) (h : b ≠ .non) : kitB a.name b.name = some (a.sub b) := by
  cases a <;> cases b <;> first | exact absurd rfl h | decide +kernel
def tyD (S : Store) : D → Option Ty
  | .non => some .non
  | .bl _ => some .bl
  | .int _ => some .int
  | .str _ => some .str
  | .tup _ => some .tup
  | .fls _ => some .lst
  | .ref i => match S[i]? with
    | some (.lst _) => some .lst
    | some (.dK _) => some .dic
    | _ => none
  | _ => none
theorem tyD_ok {G : Glo} {φ : List Addr} {S : Store} {H : Hp} (R : Rel G φ S H) {d : D} {v : V} (r : VRel G φ H d v) {t : Ty} (h : tyD S d = some t) : TyX G.K H v (.type t.name) := by
  cases d with
  | non => simp only [VRel] at r; subst r; cases h; exact .base .non
  | bl b => simp only [VRel] at r; subst r; cases h; exact .base (.bl b)
  | int i => simp only [VRel] at r; subst r; cases h; exact .base (.int i)
  | str x => simp only [VRel] at r; subst r; cases h; exact .base (.str x)
  | tup ds =>
    simp only [VRel] at r
    obtain ⟨a, vs, rfl, s, _⟩ := r
    cases h
    rcases s with (s | ⟨o, s⟩) | ⟨o, its, n, k, c, _⟩
    · exact .base (.tup s)
    · exact .fTuple s
    · exact .kTuple k c
  | fls ds =>
    simp only [VRel] at r
    obtain ⟨a, vs, rfl, s, _⟩ := r
    cases h
    rcases s with ⟨o, s⟩ | ⟨o, its, n, k, c, _⟩
    · exact .base (.frz s)
    · exact .kList k c
  | ref i =>
    simp only [VRel] at r
    obtain ⟨a, rfl, ha⟩ := r
    simp only [tyD] at h
    split at h
    · rename_i ds e
      cases h
      obtain ⟨vs, q, _⟩ := R.at_ i a _ ha e
      exact .base (.lst q)
    · rename_i ds e
      cases h
      obtain ⟨vs, q, _⟩ := R.at_ i a _ ha e
      exact .base (.dK q)
    · cases h
  | st k => cases h
  | ty n => cases h
def bIsi : Bf := fun ds S => match ds with
  | [d, .ty n] => (tyD S d).bind fun t => (([Ty.bl, .int, .str, .tup, .lst, .dic].find? fun u => u.name = n).map fun u => (.bl (t.sub u), S))
  | _ => none
section
variable {C : Cp}
theorem cx_isi : CallRx C (.builtin "isinstance") bIsi := CallRx.imp (fun X => rIsi X.K) (fun _ _ _ => call_isi) fun X W hx φ S H ds vs Q R r P => by
  unfold bIsi at P
  split at P
  · rename_i d n
    obtain ⟨v, w, rfl, r1, r2⟩ := rels2 r
    simp only [VRel] at r2
    subst r2
    cases q : tyD S d with
    | none => rw [q] at P; exact P.elim
    | some t =>
      rw [q] at P
      simp only [Option.bind_some] at P
      cases q2 : [Ty.bl, .int, .str, .tup, .lst, .dic].find? (fun u => u.name = n) with
      | none => rw [q2] at P; exact P.elim
      | some u =>
        rw [q2] at P
        have hn : u.name = n := by simpa using List.find?_some q2
        have hne : u ≠ .non := by
          have := List.mem_of_find?_eq_some q2
          intro z; subst z; simp at this
        rw [hx.K]
        exact ⟨v, .ty n, _, _, _, rfl, .ty n, tyD_ok R r1 q, kit_ty (by rw [← hn]; exact Ty.sub_ok t u hne), P.now R (by simp only [VRel])⟩
  · exact P.elim
theorem pex_ty {x : Str} {n : String} {pos : Pos} (hg : glB C x = true) (hm : C.G.mg x = none) (hv : bootBuiltins x = some (.type n)) (hn : x ≠ "__name__" := by decide +kernel) (hd : (x == ("__debug__" : Str)) = false := by decide +kernel) : PEx C (.Name x pos) (dC (.ty n)) := fun X W h => by
  refine pe_imp (pe_bltn (X := X) (v := .ty n) (glB_ok hg h) (by rw [h.mg]; exact hm) hv rfl hn hd) fun σ H Q ⟨φ, S, env, R, E, P⟩ => ?_
  exact Pst.now P R _ (by simp only [VRel])
theorem pex_glob {x : Str} {d : D} {v : V} {u : Value} {pos : Pos} (hg : glB C x = true) (hm : C.G.mg x = some u) (r : RelV v u) (rd : ∀ φ H, VRel C.G φ H d v) (hd : (x == ("__debug__" : Str)) = false := by decide +kernel) : PEx C (.Name x pos) (dC d) := fun X W h => by
  refine pe_imp (pe_glob (X := X) (glB_ok hg h) (by rw [h.mg]; exact hm) r hd) fun σ H Q ⟨φ, S, env, R, E, P⟩ => ?_
  exact Pst.now P R v (rd φ H)
end
end Z

namespace Z
open PySem PySem.Spec PyProof.Rows L2

section
variable {G : Glo} {φ : List Addr} {S : Store} {H : Hp}
end

structure SlCls (G : Glo) (c : Nat) : Prop where
  cls : SlX.SCls G.K (G.ad c)
  isi : SlX.SIsi G.K (G.ad c)
def SlFld (G : Glo) (f : Str) (tb : List (Nat × Nat)) : Prop := ∀ c j, tb.lookup c = some j → SlX.SCls G.K (G.ad c) ∧ ∃ p, SlX.Slot1 G.K (G.ad c) f p j
def getF (tb : List (Nat × Nat)) (d : D) (S : Store) : Option D := match d with
  | .ref i => (match S[i]? with
    | some (.slt c vs) => (match tb.lookup c with
      | some j => (match vs[j]? with
        | some (some x) => some x
        | _ => none)
      | none => none)
    | _ => none)
  | _ => none
def dFld (tb : List (Nat × Nat)) (a : DE) : DE := fun env S => (a env S).bind fun x S1 => ofO ((getF tb x S1).map fun d => (d, S1))
section
variable {C : Cp} {a : Expr} {da de : DE} {e : Expr} {f : Str} {pos pos' : Pos} {tb : List (Nat × Nat)}
end

def FnA (G : Glo) (k : Nat) (g : Addr) (n : Nat) (F : Fn) : Prop := FnR G.P G.w G.K G.mg G.base (L2.CX G.P G.w) k g (spD G n F)
structure MtIs (G : Glo) (k c : Nat) (m : Str) (n : Nat) (F : Fn) : Prop where
  cls : SlX.SCls G.K (G.ad c)
  ex : ∃ g, Meth G.K (G.ad c) m g ∧ FnA G k g n F
section
variable {C : Cp} {k c n : Nat} {m : Str} {F : Fn} {o e : Expr} {es : List Expr} {dₒ : DE} {dr : DA} {pos apos : Pos} {pl : Env → Sem Bool}
end

structure MkIs (G : Glo) (k c : Nat) (x : Str) (n : Nat) (F : Fn) : Prop where
  ex : ∃ g, Mk G.K (G.ad c) g ∧ G.mg x = some (.ref (G.ad c)) ∧ FnA G k g n F
section
variable {C : Cp} {k c n : Nat} {x : Str} {F : Fn} {e : Expr} {es : List Expr} {dr : DA} {p pos : Pos}
end

structure PrIs (G : Glo) (k c : Nat) (f : Str) (F : Fn) : Prop where
  cls : SlX.SCls G.K (G.ad c)
  ex : ∃ p g, PySem.W.findIn G.K (.ref (G.ad c)) f = some (some (.ref p)) ∧ PySem.W.specialIn G.K (.ref p) "__get__" = some (some (.builtin "property.__get__")) ∧ PySem.W.takesIn G.K (.ref p) = some true ∧ (∃ rest, PySem.W.recIn G.K p "property" = some (.ref g :: rest)) ∧ FnA G k g 1 F
end Z

namespace Z
open PySem PySem.Spec PyProof.Rows L2

def SqB (K : PySem.W.Frag) (H : Hp) : Bool → Addr → List V → Prop
  | true, a, xs => SqT K H a xs
  | false, a, xs => SqL K H a xs
def ItB (h : Heap) : Bool → Addr → Addr → Nat → Prop
  | true, it, l, i => h.IsTupleIter it l i
  | false, it, l, i => h.IsListIter it l i
def IsB (h : Heap) : Bool → Addr → Array Value → Prop
  | true, l, xs => h.IsTuple l xs
  | false, l, xs => h.IsList l xs
theorem drawsB {prog : Program} {w : World} {A : Around} (hh : A.handled = none) (t : Bool) (it l : Addr) (hne : l ≠ it) (items : Array Value) :
    Draws prog w A it [it, l] items.size (fun i v => items[i]? = some v) (fun i h => ItB h t it l i ∧ IsB h t l items) := by
  cases t
  · exact Draws.list hh it l hne items
  · exact Draws.tuple hh it l hne items
theorem ItB.at {h h' : Heap} {t : Bool} {it l : Addr} {i : Nat} (x : ItB h t it l i) (k : ∀ o, h.get? it = some o → h'.get? it = some o) : ItB h' t it l i := by
  cases t
  · exact Heap.IsListIter.at x k
  · exact Heap.IsTupleIter.at x k
theorem ItB.obj {h : Heap} {t : Bool} {it l : Addr} {i : Nat} (x : ItB h t it l i) : ∃ o, h.get? it = some o ∧ ∀ v, o.data ≠ .cell v := by
  cases t <;> obtain ⟨o, e, _, d⟩ := x <;> exact ⟨o, e, fun v q => by rw [d] at q; cases q⟩
def itObj : Bool → Addr → Obj
  | true, l => { cls := .type "tuple_iterator", data := .fields #[.ref l, .int 0 0] }
  | false, l => { cls := .type "list_iterator", data := .fields #[.ref l, .int 0 0] }
theorem beginsB (t : Bool) (l : Addr) (items : Array Value) : Begins (.ref l) (itObj t l) fun h => IsB h t l items := by
  cases t
  · exact begins_list l items
  · exact begins_tuple l items
theorem itB_new {h : Heap} {t : Bool} {it l : Addr} (e : h.get? it = some (itObj t l)) : ItB h t it l 0 := by
  cases t <;> exact ⟨_, e, rfl, rfl⟩
section
variable {X : Cx} {pins : List (Addr × Obj)} {σ : L2.St} {H : Hp} {s : Shared} {a : Addr} {xs ys : List V}
theorem inv_seqB {t : Bool} (I : Inv X pins σ H s) (h : SqB X.K H t a xs) : ∃ its : List Value, Vals xs its ∧ IsB s.heap t a its.toArray ∧ xs.length ≤ sizeLine ∧ a < s.heap.objs.size := by
  cases t
  · obtain ⟨its, r, p, z⟩ := I.list h
    exact ⟨its, r, p.isList, z, p.lt⟩
  · obtain ⟨its, r, p, z⟩ := I.tuple h
    obtain ⟨o, e, _⟩ := id p
    exact ⟨its, r, p, z, Heap.lt_size e⟩
theorem seqB_inj {t : Bool} (I : Inv X pins σ H s) (h : SqB X.K H t a xs) (h' : SqB X.K H t a ys) : xs = ys := by
  cases t
  · exact I.list_inj h h'
  · exact I.tuple_inj h h'
end
def ItzB (K : PySem.W.Frag) (t1 t2 : Bool) (a b : Addr) : It :=
  ⟨fun i H => ∃ (xs ys : List V) (x y : V), SqB K H t1 a xs ∧ SqB K H t2 b ys ∧ xs[i]? = some x ∧ ys[i]? = some y,
    fun i H v H' => ∃ T x y, v = .ref T ∧ H T = none ∧ H' = upd H T (.tup [x, y]) ∧ (∀ xs, SqB K H t1 a xs → xs[i]? = some x) ∧ ∀ ys, SqB K H t2 b ys → ys[i]? = some y,
    fun i H => ∃ xs ys : List V, SqB K H t1 a xs ∧ SqB K H t2 b ys ∧ i ≤ xs.length ∧ i ≤ ys.length ∧ (i = xs.length ∨ i = ys.length)⟩
theorem sep_of {z TI TO i1 i2 a b : Addr} (D : ZipApart z TI TO i1 i2 a b) : ZipSep2 z TI TO i1 i2 [i1, a] [i2, b] where
  TIz := D.TIz
  TOz := D.TOz
  TITO := D.TITO
  TIi1 := D.TIi1
  mem1 := by simp
  zf1 := by simp [Ne.symm D.i1z, Ne.symm D.l1z]
  Tf1 := by simp [D.TOi1, Ne.symm D.l1TO]
  TIi2 := D.TIi2
  mem2 := by simp
  zf2 := by simp [Ne.symm D.i2z, Ne.symm D.l2z]
  Tf2 := by simp [D.TOi2, Ne.symm D.l2TO]
  sep1_2 := by simp [D.i12, Ne.symm D.l2i1]
  sep2_1 := by simp [Ne.symm D.i12, Ne.symm D.l1i2]
theorem turn_zipB {P : Program} {w : World} {K : PySem.W.Frag} {elts : List Expr} {kk : Nat} {tpos : Pos} {t1 t2 : Bool} {a b z TI TO i1 i2 : Addr} (D : ZipApart z TI TO i1 i2 a b) :
    Turn P w K (.Tuple elts kk tpos) (ItzB K t1 t2 a b) [z, TI, TO, i1, i2] z (fun i h => IsZip h z TI TO .none ∧ IsTupOf2 h TI (.ref i1) (.ref i2) ∧ (∃ x y, IsTupOf2 h TO x y) ∧ ItB h t1 i1 a i ∧ ItB h t2 i2 b i) where
  mem := by simp
  obj := fun i h st c hc => by
    obtain ⟨hz, hTI, ⟨x, y, hTO⟩, h1, h2⟩ := st
    have e' : c = z ∨ c = TI ∨ c = TO ∨ c = i1 ∨ c = i2 := by simpa using hc
    rcases e' with q | q | q | q | q
    · rw [q]; exact ⟨_, hz, fun v q => nomatch q⟩
    · rw [q]; exact ⟨_, hTI, fun v q => nomatch q⟩
    · rw [q]; exact ⟨_, hTO, fun v q => nomatch q⟩
    · rw [q]; exact h1.obj
    · rw [q]; exact h2.obj
  keep := fun i h h' st k => by
    obtain ⟨hz, hTI, ⟨x, y, hTO⟩, h1, h2⟩ := st
    exact ⟨k z (by simp) _ hz, k TI (by simp) _ hTI, ⟨x, y, k TO (by simp) _ hTO⟩, h1.at fun o q => k i1 (by simp) o q, h2.at fun o q => k i2 (by simp) o q⟩
  item := by
    intro X hP hw hK hc i pins s σ H E I hf st hg
    subst hP hw hK
    obtain ⟨hz, hTI, ⟨x0, y0, hTO⟩, h1, h2⟩ := st
    obtain ⟨xs, ys, x, y, hqx, hqy, hx, hy⟩ := hg
    obtain ⟨its, rv, p, _, _⟩ := inv_seqB I hqx
    obtain ⟨its2, rv2, p2, _, _⟩ := inv_seqB I hqy
    obtain ⟨u, hu, ru⟩ := rv.get hx
    obtain ⟨u2, hu2, ru2⟩ := rv2.get hy
    have hzl : z < s.heap.objs.size := Heap.lt_size hz
    have l1 : i < its.toArray.size := by simpa using (List.getElem?_eq_some_iff.mp hu).1
    have l2 : i < its2.toArray.size := by simpa using (List.getElem?_eq_some_iff.mp hu2).1
    refine wpAny_pyNext_zipD2_item (sep_of D) (drawsB (prog := X.prog) (w := X.w) (A := X.A.in1) (show X.A.in1.handled = none from I.ok.hd hc) t1 i1 a D.l1i1 its.toArray) (drawsB (prog := X.prog) (w := X.w) (A := X.A.in1) (show X.A.in1.handled = none from I.ok.hd hc) t2 i2 b D.l2i2 its2.toArray) hz hTI hTO ⟨h1, p⟩ ⟨h2, p2⟩ l1 l2 fun x1 x2 h' tk e1 e2 z' TO' h1' h2' hT hsz hk => ?_
    have q1 : x1 = u := by
      have e1' : its[i]? = some x1 := by simpa using e1
      rw [hu] at e1'; exact (Option.some.inj e1').symm
    have q2 : x2 = u2 := by
      have e2' : its2[i]? = some x2 := by simpa using e2
      rw [hu2] at e2'; exact (Option.some.inj e2').symm
    subst q1 q2
    refine ⟨_, rfl, wpAny_letOwnedTupleGo_zip (s := { s with heap := h', toks := tk }) z' fun h'' z'' sb => ?_⟩
    have hT2 : h''.get? s.heap.objs.size = some { cls := .type "tuple", data := .seq #[x1, x2] } := (sb.2 _ (Nat.ne_of_gt hzl)).trans hT
    have new : ObjOk X.prog X.w (upd H s.heap.objs.size (.tup [x, y])) h'' s.heap.objs.size (.tup [x, y]) :=
      ⟨by show 2 ≤ sizeLine; decide, [x1, x2], .cons ru (.cons ru2 .nil), ⟨_, hT2, rfl, _, rfl⟩⟩
    have I1 : Inv X pins σ (upd H s.heap.objs.size (.tup [x, y])) { s with heap := h'', toks := tk } :=
      I.turnedNew (t' := tk) (ch := [z, TI, TO, i1, i2]) (fun c o hb q => (sb.2 c (fun q' => hb (by simp [q']))).trans (hk c o (fun q' => hb (by simp [q'])) (fun q' => hb (by simp [q'])) (fun q' => hb (by simp [q'])) (fun q' => hb (by simp [q'])) q)) hf (Nat.le_refl _) new
    refine ⟨.ref s.heap.objs.size, _, I1, rfl, ⟨_, x, y, rfl, I.hok.fresh (Nat.le_refl _), rfl, fun l hl => by rw [seqB_inj I hl hqx]; exact hx, fun l hl => by rw [seqB_inj I hl hqy]; exact hy⟩, ⟨z'', ?_, ⟨x1, x2, ?_⟩, ?_, ?_⟩, fun c hcm => ?_⟩
    · exact (sb.2 _ D.TIz).trans (hk _ _ D.TIz D.TITO D.TIi1 D.TIi2 hTI)
    · exact (sb.2 _ D.TOz).trans TO'
    · exact h1'.1.at fun o q => (sb.2 _ D.i1z).trans q
    · exact h2'.1.at fun o q => (sb.2 _ D.i2z).trans q
    · have hlt : c < s.heap.objs.size := by
        have e' : c = z ∨ c = TI ∨ c = TO ∨ c = i1 ∨ c = i2 := by simpa using hcm
        rcases e' with q | q | q | q | q
        · rw [q]; exact hzl
        · rw [q]; exact Heap.lt_size hTI
        · rw [q]; exact Heap.lt_size hTO
        · rw [q]; obtain ⟨_, e1, _⟩ := h1.obj; exact Heap.lt_size e1
        · rw [q]; obtain ⟨_, e2, _⟩ := h2.obj; exact Heap.lt_size e2
      rw [upd_ne (Nat.ne_of_lt hlt)]
      exact (hf c hcm).1
  done := by
    intro X hP hw hK hc i pins s σ H E I hf st hg
    subst hP hw hK
    obtain ⟨hz, hTI, ⟨x0, y0, hTO⟩, h1, h2⟩ := st
    obtain ⟨xs, ys, hqx, hqy, hle1, hle2, hend⟩ := hg
    obtain ⟨its, rv, p, _, _⟩ := inv_seqB I hqx
    obtain ⟨its2, rv2, p2, _, _⟩ := inv_seqB I hqy
    have l1 : its.toArray.size = xs.length := by have := rv.length; simp; omega
    have l2 : its2.toArray.size = ys.length := by have := rv2.length; simp; omega
    refine wpAny_pyNext_zipD2_end (sep_of D) (drawsB (prog := X.prog) (w := X.w) (A := X.A.in1) (show X.A.in1.handled = none from I.ok.hd hc) t1 i1 a D.l1i1 its.toArray) (drawsB (prog := X.prog) (w := X.w) (A := X.A.in1) (show X.A.in1.handled = none from I.ok.hd hc) t2 i2 b D.l2i2 its2.toArray) hz hTI hTO ⟨h1, p⟩ ⟨h2, p2⟩ (by omega) (by omega) (by omega) fun h' tk hk => ⟨rfl, I.turnedL (t' := tk) (ch := [z, TI, TO, i1, i2]) (fun c o hb q =>
      hk c o (fun q' => hb (by simp [q'])) (fun q' => hb (by simp [q'])) (fun q' => hb (by simp [q'])) (fun q' => hb (by simp [q'])) q) hf⟩
  self := fun A i s Q E st h => wpAny_pyIter_zip st.1 h

def iZipB (K : PySem.W.Frag) (ta : TA) : TI := fun σ H R => ta σ H fun vs H1 => ∃ t1 t2 a b xs ys, vs = [.ref a, .ref b] ∧ SqB K H1 t1 a xs ∧ SqB K H1 t2 b ys ∧ R (ItzB K t1 t2 a b) H1
theorem pi_zipB {X : Cx} {e e2 : Expr} {ta : TA} {p pos tpos : Pos} {elts : List Expr} {kk : Nat} (hg : Gl X "zip") (hm : X.mg "zip" = none) (ha : PA X [e, e2] ta)
    (hs : starEach [e, e2] X.env = (false, eval e X.env) :: starEach [e2] X.env := by rfl) (hpl : (backTo pos (starEach [e2] X.env)).any (·.1) = false := by rfl) :
    PI X (.Tuple elts kk tpos) (.Call (.Name "zip" p) [e, e2] [] pos) (iZipB X.K ta) := by
  refine ⟨fun pins s σ H R I h => ?_⟩
  refine Call_ (ld_blt I hg hm PyProof.Rows.boot_zip (PyProof.Rows.callWith_type1 (thn (ha.run pos pins s σ H _ I h) fun us s1 ⟨vs, H1, I1, r1, q1⟩ => ?_) hs hpl))
  obtain ⟨t1, t2, a, b, xs, ys, ex, hqx, hqy, q⟩ := q1
  subst ex
  cases r1 with
  | cons r rr =>
    cases rr with
    | cons r' rr =>
      cases rr
      cases r
      cases r'
      have fresh5 : ∀ c, c ∈ [s1.heap.objs.size + 4, s1.heap.objs.size + 2, s1.heap.objs.size + 3, s1.heap.objs.size, s1.heap.objs.size + 1] → FpOk X pins H1 c := fun c hcm => by
        have e' : c = s1.heap.objs.size + 4 ∨ c = s1.heap.objs.size + 2 ∨ c = s1.heap.objs.size + 3 ∨ c = s1.heap.objs.size ∨ c = s1.heap.objs.size + 1 := by simpa using hcm
        have hle : s1.heap.objs.size ≤ c := by
          rcases e' with z | z | z | z | z <;> rw [z] <;> first | exact Nat.le_refl _ | exact Nat.le_add_right _ _
        exact I1.fpOk hle (I1.hok.fresh hle)
      obtain ⟨its, rv, p1, _, lt1⟩ := inv_seqB I1 hqx
      obtain ⟨its2, rv2, p2, _, lt2⟩ := inv_seqB I1 hqy
      refine zip_begins2 (beginsB t1 a its.toArray) (beginsB t2 b its2.toArray) p1 p2 fun h' hz hTI hTO g1 g2 hsz hk => wpAny_pyIter_zip hz ?_
      have I2 : Inv X pins σ H1 { s1 with heap := h' } := I1.kept (t' := s1.toks) hk
      exact ⟨s1.heap.objs.size + 4, [s1.heap.objs.size + 4, s1.heap.objs.size + 2, s1.heap.objs.size + 3, s1.heap.objs.size, s1.heap.objs.size + 1], _, _, H1, rfl, I2, turn_zipB (PySem.W.ktu_apart s1.heap.objs.size a b lt1 lt2), ⟨hz, hTI, ⟨_, _, hTO⟩, itB_new g1, itB_new g2⟩, fresh5, q⟩

end Z
namespace PySem
open Sem (wp)
open AutoSeq1 (wpAny_loadPart')
end PySem
namespace Z
open PySem PySem.Spec PyProof.Rows L2
def kindD : D → Bool
  | .tup _ => true
  | _ => false
theorem items_kind {G : Glo} {φ : List Addr} {S : Store} {H : Hp} (R : Rel G φ S H) {d : D} {v : V} (r : VRel G φ H d v) {ds : List D} (h : itemsD S d = some ds) : ∃ a vs, v = .ref a ∧ SqB G.K H (kindD d) a vs ∧ VRels G φ H ds vs := by
  cases d with
  | tup es =>
    cases h
    simp only [VRel] at r
    obtain ⟨a, vs, e, q, rs⟩ := r
    exact ⟨a, vs, e, q, rs⟩
  | fls es =>
    cases h
    simp only [VRel] at r
    obtain ⟨a, vs, e, q, rs⟩ := r
    exact ⟨a, vs, e, q.sq, rs⟩
  | ref i =>
    simp only [itemsD] at h
    split at h
    · rename_i es e
      cases h
      obtain ⟨a, vs, e, q, rs, _⟩ := sq_lst R r e
      exact ⟨a, vs, e, SqL.of q, rs⟩
    · cases h
  | _ => cases h
def jZip (x y : D) : Itd := fun k S => match itemsD S x, itemsD S y with
  | some xs, some ys => (match xs[k]?, ys[k]? with
    | some a, some b => some (some (.tup [a, b]))
    | _, _ => if k ≤ xs.length ∧ k ≤ ys.length then some none else none)
  | _, _ => none
section
variable {G : Glo} {φ0 φ : List Addr} {H0 H : Hp} {S : Store}
theorem pair_new {φ : List Addr} {S : Store} {H : Hp} {T : Addr} {d1 d2 : D} {v1 v2 : V} (R : Rel G φ S H) (h : H T = none) (r1 : VRel G φ H d1 v1) (r2 : VRel G φ H d2 v2) :
    Nxt φ φ H (upd H T (.tup [v1, v2])) ∧ Rel G φ S (upd H T (.tup [v1, v2])) ∧ VRel G φ (upd H T (.tup [v1, v2])) (.tup [d1, d2]) (.ref T) := by
  have n : Nxt φ φ H (upd H T (.tup [v1, v2])) := Nxt.mute h
  refine ⟨n, R.mute (R.notmem h) n.grow (nx_none h), ?_⟩
  simp only [VRel]
  exact ⟨T, _, rfl, .inl (.inl upd_same), VRels.cons (r1.nxt n) (VRels.cons (r2.nxt n) VRels.nil)⟩
theorem it_zip {x y : D} {vx vy : V} {a b : Addr} (r1 : VRel G φ0 H0 x vx) (r2 : VRel G φ0 H0 y vy) (ex : vx = .ref a) (ey : vy = .ref b) : ItRel G φ0 H0 (jZip x y) (ItzB G.K (kindD x) (kindD y) a b) := by
  subst ex ey
  refine ⟨fun k φ S H n R e => ?_, fun k φ S H d n R e => ?_⟩
  · unfold jZip at e
    cases ix : itemsD S x with
    | none => rw [ix] at e; cases e
    | some xs =>
      cases iy : itemsD S y with
      | none => rw [ix, iy] at e; cases e
      | some ys =>
        rw [ix, iy] at e
        obtain ⟨a', us, ea, qa, ra⟩ := items_kind R (r1.nxt n) ix
        obtain ⟨b', ws, eb, qb, rb⟩ := items_kind R (r2.nxt n) iy
        cases ea
        cases eb
        have la := ra.length
        have lb := rb.length
        dsimp only at e
        cases h1 : xs[k]? with
        | none =>
          rw [h1] at e
          dsimp only at e
          split at e
          · rename_i hle
            have := List.getElem?_eq_none_iff.mp h1
            exact ⟨us, ws, qa, qb, by omega, by omega, by omega⟩
          · cases e
        | some u =>
          cases h2 : ys[k]? with
          | some w => rw [h1, h2] at e; cases e
          | none =>
            rw [h1, h2] at e
            dsimp only at e
            split at e
            · rename_i hle
              have := List.getElem?_eq_none_iff.mp h2
              exact ⟨us, ws, qa, qb, by omega, by omega, by omega⟩
            · cases e
  · unfold jZip at e
    cases ix : itemsD S x with
    | none => rw [ix] at e; cases e
    | some xs =>
      cases iy : itemsD S y with
      | none => rw [ix, iy] at e; cases e
      | some ys =>
        rw [ix, iy] at e
        obtain ⟨a', us, ea, qa, ra⟩ := items_kind R (r1.nxt n) ix
        obtain ⟨b', ws, eb, qb, rb⟩ := items_kind R (r2.nxt n) iy
        cases ea
        cases eb
        dsimp only at e
        cases h1 : xs[k]? with
        | none =>
          rw [h1] at e
          dsimp only at e
          split at e <;> cases e
        | some u =>
          cases h2 : ys[k]? with
          | none =>
            rw [h1, h2] at e
            dsimp only at e
            split at e <;> cases e
          | some w =>
            rw [h1, h2] at e
            cases e
            obtain ⟨v1, e1, q1⟩ := ra.get h1
            obtain ⟨v2, e2, q2⟩ := rb.get h2
            refine ⟨⟨us, ws, v1, v2, qa, qb, e1, e2⟩, fun z H' yl => ?_⟩
            obtain ⟨T, z1, z2, rfl, hT, rfl, f1, f2⟩ := yl
            have g1 := f1 us qa
            have g2 := f2 ws qb
            rw [e1] at g1; cases g1
            rw [e2] at g2; cases g2
            exact pair_new R hT q1 q2
end
def iZip (r : DA) : DI := fun env S => (r env S).bind fun xs S1 => match xs with
  | [x, y] => if (itemsD S1 x).isSome ∧ (itemsD S1 y).isSome then .ok (jZip x y) S1 else .bad
  | _ => .bad
section
variable {C : Cp} {e e2 : Expr} {dr : DA} {p pos tpos : Pos} {elts : List Expr} {kk : Nat}
theorem pix_zip (hg : glB C "zip" = true) (hm : C.G.mg "zip" = none) (ha : PAx C [e, e2] dr)
    (hs : ∀ env, starEach [e, e2] env = (false, eval e env) :: starEach [e2] env := by intro _; rfl) (hpl : ∀ env, (backTo pos (starEach [e2] env)).any (·.1) = false := by intro _; rfl) :
    PIx C (.Tuple elts kk tpos) (.Call (.Name "zip" p) [e, e2] [] pos) (iZip dr) := fun X W h => by
  refine pi_imp (pi_zipB (glB_ok hg h) (by rw [h.mg]; exact hm) (ha X W h) (hs X.env) (hpl X.env)) fun σ H R ⟨φ, S, env, R0, E, P⟩ => ⟨φ, S, env, R0, E, P.bind.imp fun φ1 H1 S1 xs n1 R1 P1 vs rs => ?_⟩
  match xs, rs, P1 with
  | [x, y], rs, P1 =>
    dsimp only at P1
    by_cases hc : (itemsD S1 x).isSome ∧ (itemsD S1 y).isSome
    · rw [if_pos hc] at P1
      obtain ⟨v, w, rfl, r1, r2⟩ := rels2 rs
      obtain ⟨xs, hx⟩ := Option.isSome_iff_exists.mp hc.1
      obtain ⟨ys, hy⟩ := Option.isSome_iff_exists.mp hc.2
      obtain ⟨a, us, rfl, qa, _⟩ := items_kind R1 r1 hx
      obtain ⟨b, ws, rfl, qb, _⟩ := items_kind R1 r2 hy
      exact ⟨kindD x, kindD y, a, b, us, ws, rfl, by rw [h.K]; exact qa, by rw [h.K]; exact qb, Pst.now P1 R1 _ (by rw [h.K]; exact it_zip r1 r2 rfl rfl)⟩
    · rw [if_neg hc] at P1
      exact P1.elim
  | [], rs, P1 => exact P1.elim
  | [_], rs, P1 => exact P1.elim
  | _ :: _ :: _ :: _, rs, P1 => exact P1.elim
end
end Z

namespace Z
open PySem PySem.Spec PyProof.Rows L2

def dStar (a : DE) (r : DA) : DA := fun env S => (a env S).bind fun x S1 => match itemsD S1 x with
  | some xs => (r env S1).bind fun ys S2 => .ok (xs ++ ys) S2
  | none => .bad
section
variable {C : Cp} {e : Expr} {es : List Expr} {de : DE} {dr : DA} {p pos : Pos}
theorem pax_star (he : PEx C e de) (hr : PAx C es dr) (hs : ∀ env, starEach (.Starred e p :: es) env = (true, eval e env) :: starEach es env := by intro _; rfl) : PAx C (.Starred e p :: es) (dStar de dr) := fun X W h => by
  refine pa_imp (StX.pa_star (he X W h) (hr X W h) (hs X.env)) fun σ H Q ⟨φ, S, env, R, E, P⟩ => ⟨φ, S, env, R, E, P.bind.imp fun φ1 H1 S1 x n1 R1 P1 v1 r1 => ?_⟩
  cases q : itemsD S1 x with
  | none => rw [q] at P1; exact P1.elim
  | some xs =>
    rw [q] at P1
    obtain ⟨a, vs, rfl, sq, rs⟩ := items_seq R1 r1 q
    refine ⟨a, vs, rfl, by rw [h.K]; exact sq.symm, φ1, S1, env, R1, E.nxt n1, P1.bind.imp fun φ2 H2 S2 ys n2 R2 P2 ws rw2 => ?_⟩
    exact Pst.now P2 R2 _ ((rs.nxt n2).append rw2)
end

def rgD (a b : Int) : List D := (List.range (b - a).toNat).map fun i => D.int (a + (i : Nat))
def rgB (a b : Int) : Bool := decide (-(2 ^ 62) ≤ a) && (decide (a < 2 ^ 62) && (decide (-(2 ^ 62) ≤ b) && (decide (b < 2 ^ 62) && decide ((b - a).toNat ≤ 2 ^ 24))))
def rgOf : List D → Option (Int × Int)
  | [.int n] => some (0, n)
  | [.int a, .int b] => some (a, b)
  | _ => none
def dLRg (r : DA) : DE := fun env S => (r env S).bind fun xs S1 => match rgOf xs with
  | some (a, b) => if rgB a b = true then .ok (.ref S1.length) (S1 ++ [.lst (rgD a b)]) else .bad
  | none => .bad
section
variable {C : Cp} {e e2 : Expr} {de de2 : DE} {p p2 pos pos2 : Pos}
end

theorem psx_par3 {C : Cp} {i j l : Nat} {x y z : Str} {a b c : Expr} {dr : DA} {px py pz pt pt2 pos : Pos} {kt k2} (nd : C.N.Nodup) (hi : C.N[i]? = some x) (hj : C.N[j]? = some y) (hl : C.N[l]? = some z) (hij : i ≠ j) (hil : i ≠ l) (hjl : j ≠ l)
    (hx : C.sc.names.lookup x = some .local) (hy : C.sc.names.lookup y = some .local) (hz : C.sc.names.lookup z = some .local) (ha : PAx C [a, b, c] dr)
    (hw : ∀ env : Env, env.scope = C.sc → swappedStores [.Tuple [.Name x px, .Name y py, .Name z pz] kt pt] (.Tuple [a, b, c] k2 pt2) env = pure (some [x, y, z]))
    (hs : ∀ env, swapsWithSole [.Tuple [.Name x px, .Name y py, .Name z pz] kt pt] (.Tuple [a, b, c] k2 pt2) pos.line env = pure false := by intro _; rfl) :
    PSx C (.Assign [.Tuple [.Name x px, .Name y py, .Name z pz] kt pt] (.Tuple [a, b, c] k2 pt2) pos) (sAsg (dTup dr) (gTup 3 (gCons (gNm i) (gCons (gNm j) (gCons (gNm l) gNil))))) := fun X W h => by
  refine ps_imp (ps_par3 h.calm (by rw [h.N]; exact nd) (by rw [h.N]; exact hi) (by rw [h.N]; exact hj) (by rw [h.N]; exact hl) hij hil hjl (by rw [h.sc]; exact hx) (by rw [h.sc]; exact hy) (by rw [h.sc]; exact hz) (ha X W h) (hw X.env h.sc) (hs X.env)) fun D σ H ⟨φ, S, env, R, E, P⟩ => ?_
  have P0 : Pst C.G (fun c p H' => ∀ σ', W c p σ' H') φ H _ (dTup dr env S) := P.bind
  unfold dTup at P0
  refine ⟨φ, S, env, R, E, (pst_err P0.bind).imp fun φ1 H1 S1 xs n1 R1 P1 vs rs => ?_⟩
  split at P1
  · have P2 := Pst.now P1 R1
    match xs, rs, P2 with
    | [d, e, f], rs, P2 =>
      simp only [VRels] at rs
      obtain ⟨v, us, rfl, rv, w, us', rfl, rw', u, us'', rfl, ru, rfl⟩ := rs
      refine ⟨v, w, u, rfl, ?_⟩
      exact (Pst.now (α := Fl) P2 R1 : FlP C.G D φ1 H1 (.nx _)) _ ((((E.nxt n1).set rv).set rw').set ru)
    | [], rs, P2 => exact P2.elim
    | [_], rs, P2 => exact P2.elim
    | [_, _], rs, P2 => exact P2.elim
    | _ :: _ :: _ :: _ :: _, rs, P2 =>
      exfalso
      simp [gTup, Res.bind, Pst] at P2
  · exact P1.elim

section
variable {C : Cp} {e : Expr} {es : List Expr} {de : DE} {dr : DA} {p pos : Pos}
inductive PJx (C : Cp) : List Expr → List DE → Prop
  | nil : PJx C [] []
  | cons {e : Expr} {de : DE} {es : List Expr} {ds : List DE} (h : PEx C e de) (r : PJx C es ds) : PJx C (e :: es) (de :: ds)
end

def oMulT : Op2 := fun d e S => match d, e with
  | .tup xs, .int k => if xs ≠ [] ∧ 2 ≤ k ∧ k ≤ 1000 ∧ xs.length ≤ 1000 then some (.tup (List.replicate k.toNat xs).flatten, S) else none
  | _, _ => none
theorem opx_mulT {C : Cp} : OpRx C (binaryOp .Mult) oMulT := OpRx.imp (fun X => rRepT X.K) (fun _ _ _ => op_repT) fun X W hx φ S H d e x y Q R r1 r2 P => by
  unfold oMulT at P
  split at P
  · split at P
    · rename_i xs k hb
      simp only [VRel] at r1 r2
      obtain ⟨a, vs, rfl, sq, rs⟩ := r1
      subst r2
      refine ⟨a, _, vs, rfl, rfl, by rw [hx.K]; exact sq, fun z => hb.1 ?_, hb.2.1, hb.2.2.1, by rw [← rs.length]; exact hb.2.2.2, fun p hp => PstV.tup P R (rs.replicate _) hp⟩
      subst z
      exact List.eq_nil_of_length_eq_zero rs.length
    · exact P.elim
  · exact P.elim
def oMulA : Op2 := orO oMulI (orO oMulL oMulT)
theorem opx_mulA {C : Cp} : OpRx C (binaryOp .Mult) oMulA := opx_mulI.or (opx_mulL.or opx_mulT)
end Z

namespace Z
open PySem PySem.Spec PyProof.Rows L2 He

structure Df where
  ad : PySem.W.Frag → Addr
  name : Str
  qual : Str
  params : Arguments
  body : List Stmt
  scope : Scope
  dvs : List V
  clo : List Str := []
def fnA (K : PySem.W.Frag) (a : Addr) : FnW := match K.lookup a with
  | some ⟨_, _, .func fd, _⟩ => some (fd.name, fd.qualname, fd.params, fd.body, fd.scope, fd.globals, fd.closure.map (fun z => (z.1, 0)), fd.builtins)
  | _ => none
def Df.val (d : Df) : FnW := some (d.name, d.qual, d.params, .stmts d.body, d.scope, mainGlobals, d.clo.map (fun z => (z, 0)), builtinsNs)
def Df.ok (K : PySem.W.Frag) (d : Df) : Bool := PySem.W.keepIn K (.ref (d.ad K)) && (match K.lookup (d.ad K) with
  | some ⟨_, _, .func fd, _⟩ => PySem.W.codeIn K fd.code d.qual && (dflB K fd.defaults d.dvs && kwdB K fd.kwdefaults [])
  | _ => false)
theorem Df.funD {K : PySem.W.Frag} {d : Df} (e : fnA K (d.ad K) = d.val) (c : d.ok K = true) (hc : d.clo = []) : ∃ fd, FunD K d.name d.qual d.params d.body d.scope d.dvs [] (d.ad K) fd := by
  obtain ⟨kp, c2⟩ := ba c
  unfold fnA at e
  cases q : K.lookup (d.ad K) with
  | none =>
    rw [q] at c2
    cases c2
  | some o =>
    obtain ⟨oc, od, dt, osl⟩ := o
    rw [q] at c2 e
    cases dt with
    | func fd =>
      obtain ⟨n1, n2, n3, n4, n5, n6, n7, n8, n9, n10, n11, n12, n13, n14, n15⟩ := fd
      have e2 : (some (n1, n2, n3, n4, n5, n6, n7.map (fun z => (z.1, 0)), n15) : FnW) = some (d.name, d.qual, d.params, .stmts d.body, d.scope, mainGlobals, d.clo.map (fun z => (z, 0)), builtinsNs) := e
      rw [hc] at e2
      simp only [Option.some.injEq, Prod.mk.injEq] at e2
      obtain ⟨h1, h2, h3, h4, h5, h6, h7, h8⟩ := e2
      have h7 : n7 = [] := List.map_eq_nil_iff.mp h7
      subst h1 h2 h3 h4 h5 h6 h7 h8
      have c3 : (PySem.W.codeIn K n13 d.qual && (dflB K n8 d.dvs && kwdB K n9 [])) = true := c2
      obtain ⟨k1, k2⟩ := ba c3
      obtain ⟨k3, k4⟩ := ba k2
      exact ⟨_, ⟨oc, od, n8, n9, n10, n11, n12, n13, n14, osl, rfl, q, k1, dflB_ok k3, kwdB_ok k4⟩, kp⟩
    | _ => cases c2

abbrev Ck := PySem.W.Frag → Bool
def ckFa (f : Fa) : Ck := fun K => f.ok K
def ckSlt (x : Str) : Ck := fun K => PySem.W.plainGet K (ga K x) Str.empty && (PySem.W.isClsIn K (ga K x) && (PySem.W.plainOver K (ga K x) && eqO (PySem.W.findIn K (.ref (ga K x)) "__setattr__") (some (some (.builtin "object.__setattr__")))))
section
variable {K : PySem.W.Frag} {x f : Str}
theorem ckSlt_ok (c : ckSlt x K = true) : SlX.SCls K (ga K x) := by
  obtain ⟨c1, c⟩ := ba c
  obtain ⟨c2, c⟩ := ba c
  obtain ⟨c3, c4⟩ := ba c
  exact ⟨c1, c2, c3, eqO_ok c4⟩
end

def asZ (_ : Addr → Option Obj) (n : Nat) : List Addr := List.range n
def codeA (K : PySem.W.Frag) (a : Addr) : Addr := match K.lookup a with
  | some ⟨_, _, .func fd, _⟩ => (match fd.code with
    | .ref c => c
    | _ => 0)
  | _ => 0
def tabA (K : PySem.W.Frag) (a : Addr) : Addr × Addr := (codeA K a, tabOf K (codeA K a))
abbrev AlZ : Type := Bool × List FnW
def tabsZ (g : Addr → Option Obj) (tf : List (PySem.W.Frag → Addr)) (K : PySem.W.Frag) : Bool := tf.all fun p => PySem.W.codeHdIn K (tabA K (p K)).1 (tabA K (p K)).2 && (match g (tabA K (p K)).2 with
  | some o => emptyTab o
  | none => false)
def obsZ (cs : List Ck) (fn : List Df) (K : PySem.W.Frag) : AlZ := ((cs.all fun c => c K) && fn.all fun d => d.ok K, fn.map fun d => fnA K (d.ad K))
def valZ (fn : List Df) : AlZ := (true, fn.map Df.val)
def obsZG (n : Nat) (cs : List Ck) (fn : List Df) (tf : List (PySem.W.Frag → Addr)) (g : Addr → Option Obj) : AlZ × Bool := (obsZ cs fn (frT g (asZ g n)), tabsZ g tf (frT g (asZ g n)))
structure SaysZ (cs : List Ck) (fn : List Df) (tf : List (PySem.W.Frag → Addr)) (h : Heap) (K : PySem.W.Frag) : Prop where
  all : obsZ cs fn K = valZ fn
  hd : ∀ p ∈ tf, PySem.W.codeHdIn K (tabA K (p K)).1 (tabA K (p K)).2 = true
  out : ∀ p ∈ tf, K.lookup (tabA K (p K)).2 = none
  empty : ∀ p ∈ tf, h.get? (tabA K (p K)).2 = some { cls := .none, data := .fields #[] }
theorem saysZ_of {n : Nat} {cs : List Ck} {fn : List Df} {tf : List (PySem.W.Frag → Addr)} {h : Heap} (e : obsZG n cs fn tf h.get? = (valZ fn, true)) : SaysZ cs fn tf h (frT h.get? (asZ h.get? n)) := by
  have e1 : obsZ cs fn (frT h.get? (asZ h.get? n)) = valZ fn := congrArg (fun z : AlZ × Bool => z.1) e
  have e2 : tabsZ h.get? tf (frT h.get? (asZ h.get? n)) = true := congrArg (fun z : AlZ × Bool => z.2) e
  have key : ∀ p ∈ tf, PySem.W.codeHdIn (frT h.get? (asZ h.get? n)) (tabA (frT h.get? (asZ h.get? n)) (p (frT h.get? (asZ h.get? n)))).1 (tabA (frT h.get? (asZ h.get? n)) (p (frT h.get? (asZ h.get? n)))).2 = true ∧
      ∃ o, h.get? (tabA (frT h.get? (asZ h.get? n)) (p (frT h.get? (asZ h.get? n)))).2 = some o ∧ emptyTab o = true := fun p hp => by
    obtain ⟨h3, h4⟩ := ba (List.all_eq_true.mp e2 p hp)
    refine ⟨h3, ?_⟩
    cases q : h.get? (tabA (frT h.get? (asZ h.get? n)) (p (frT h.get? (asZ h.get? n)))).2 with
    | none =>
      rw [q] at h4
      cases h4
    | some o =>
      rw [q] at h4
      exact ⟨o, rfl, h4⟩
  exact ⟨e1, fun p hp => (key p hp).1, fun p hp => by
    obtain ⟨_, o, q, z⟩ := key p hp
    exact frT_none q z, fun p hp => by
    obtain ⟨_, o, q, z⟩ := key p hp
    rw [q, emptyTab_eq z]⟩
def hookZ (n : Nat) (cs : List Ck) (fn : List Df) (tf : List (PySem.W.Frag → Addr)) : PySem.W.Hook where
  α := AlZ × Bool
  obs := fun s => obsZG n cs fn tf s.heap.get?
  val := fun _ => (valZ fn, true)
  says := fun _ h => ∃ K : PySem.W.Frag, K.In h ∧ SaysZ cs fn tf h K
  of := fun _ _ e => ⟨_, frT_in, saysZ_of e⟩
  keeps := fun _ _ _ ⟨K, hK, c⟩ k => ⟨K, PySem.W.Frag.In.keeps hK k, ⟨c.all, c.hd, c.out, fun p hp => k _ _ (c.empty p hp)⟩⟩
theorem obsZG_eq {n : Nat} {cs : List Ck} {fn : List Df} {tf : List (PySem.W.Frag → Addr)} {g : Addr → Option Obj} {s : Shared} (h : ∀ a, g a = s.heap.get? a) : obsZG n cs fn tf g = (hookZ n cs fn tf).obs s := by
  have e : g = s.heap.get? := funext h
  rw [e] <;> rfl

def dflF (F : Fn) (ns : List D) : Fn := fun ds S => F (ds ++ ns) S
abbrev Tf := List ((PySem.W.Frag → Addr) × Str)
def tabZ (K : PySem.W.Frag) (tf : Tf) : List (Addr × Str) := tf.map fun z => ((tabA K (z.1 K)).2, z.2)
structure Hyp (cs : List Ck) (fn : List Df) (cl : List Str) (tf : Tf) (pr : Program) (G : Glo) : Prop where
  prog : G.P = pr
  all : obsZ cs fn G.K = valZ fn
  mgns : ∀ x r, PySem.W.nsIn G.K mainGlobals x = some r → G.mg x = r
  cls : ∀ (c : Nat) (x : Str), cl[c]? = some x → G.ad c = ga G.K x
  tabs : G.T = tabZ G.K tf
  tabB : ∀ z ∈ tf, LamX.TabB G.base G.mg (tabA G.K (z.1 G.K)).1 (tabA G.K (z.1 G.K)).2
section
variable {cs : List Ck} {fn : List Df} {cl : List Str} {tf : Tf} {pr : Program} {G : Glo}
theorem Hyp.ck (h : Hyp cs fn cl tf pr G) (i : Nat) {c : Ck} (e : cs[i]? = some c) : c G.K = true := by
  have c1 := (ba (show ((cs.all fun c => c G.K) && fn.all fun d => d.ok G.K) = true from congrArg (fun z : AlZ => z.1) h.all)).1
  exact List.all_eq_true.mp c1 c (List.mem_of_getElem? e)
theorem Hyp.def_ (h : Hyp cs fn cl tf pr G) (i : Nat) {d : Df} (e0 : fn[i]? = some d) (hc : d.clo = [] := by rfl) : ∃ fd, FunD G.K d.name d.qual d.params d.body d.scope d.dvs [] (d.ad G.K) fd := by
  have c2 := (ba (show ((cs.all fun c => c G.K) && fn.all fun d => d.ok G.K) = true from congrArg (fun z : AlZ => z.1) h.all)).2
  have e : fn.map (fun d => fnA G.K (d.ad G.K)) = fn.map Df.val := congrArg (fun z : AlZ => z.2) h.all
  have e2 : (fn.map fun d => fnA G.K (d.ad G.K))[i]? = (fn.map Df.val)[i]? := by rw [e]
  rw [List.getElem?_map, List.getElem?_map, e0] at e2
  exact Df.funD (Option.some.inj e2) (List.all_eq_true.mp c2 d (List.mem_of_getElem? e0)) hc
theorem Hyp.glo (h : Hyp cs fn cl tf pr G) (i : Nat) {x : Str} (e : cs[i]? = some (ckFa (.glo x))) : G.mg x = some (.ref (ga G.K x)) := h.mgns x _ (eqO_ok (h.ck i e))
theorem Hyp.free (h : Hyp cs fn cl tf pr G) (i : Nat) {x : Str} (e : cs[i]? = some (ckFa (.free x))) : G.mg x = none := h.mgns x _ (eqO_ok (h.ck i e))
theorem Hyp.int (h : Hyp cs fn cl tf pr G) (i : Nat) {x : Str} {n : Int} (e : cs[i]? = some (ckFa (.int x n))) : ∃ t, G.mg x = some (.int n t) := by
  have c2 : (match PySem.W.nsIn G.K mainGlobals x with
    | some (some (.int j _)) => decide (j = n)
    | _ => false) = true := h.ck i e
  split at c2
  · rename_i j t q
    rw [of_decide_eq_true c2] at q
    exact ⟨t, h.mgns x _ q⟩
  · cases c2
section
variable {i j k n : Nat} {d : Df} {y : Str} {N ps : List Str} {b : DS}
theorem FnA.nil {k m : Nat} {a : Addr} {F : Fn} (h : FnA G k a m (dflF F [])) : FnA G k a m F := by
  have e : dflF F [] = F := by
    funext ds S
    show F (ds ++ []) S = F ds S
    rw [List.append_nil]
  rw [← e]
  exact h
theorem Hyp.fnIs (h : Hyp cs fn cl tf pr G) (i j : Nat) (hd : fn[i]? = some d) (ha : d.ad G.K = ga G.K y) (hc : cs[j]? = some (ckFa (.glo y))) (Sc : FnScope N ps d.scope) (hn : ps.length = n)
    (hbi : ∀ (kV doc pm : Value) (an : Option Addr) (cdv ct : Value) (us : List Value), us.length = ps.length → bindArgs (PySem.W.fnOf d.name d.qual d.params d.body d.scope .none kV doc pm an cdv ct) ⟨us, []⟩ = pure (ps.zip us))
    (hb : PSsx ⟨G, k, N, d.scope, fun _ => true, none, false⟩ d.body b) (hv : d.dvs = [] := by rfl) (hcl : d.clo = [] := by rfl) : FnIs G (k + 1) y n (mkFn N.length b) := by
  obtain ⟨fd, F⟩ := h.def_ i hd hcl
  rw [hv] at F
  exact fn_is F (by rw [ha]; exact h.glo j hc) Sc hn hbi hb
end
theorem Hyp.slt (h : Hyp cs fn cl tf pr G) (i : Nat) {x : Str} {c : Nat} (hc0 : cl[c]? = some x) (e : cs[i]? = some (ckSlt x)) : SlX.SCls G.K (G.ad c) := by
  rw [h.cls c x hc0]
  exact ckSlt_ok (h.ck i e)
theorem SlFld.cons {f : Str} {tb tb' : List (Nat × Nat)} (a : SlFld G f tb) (b : SlFld G f tb') : SlFld G f (tb ++ tb') := fun c j q => by
  rw [List.lookup_append] at q
  cases h : tb.lookup c with
  | some r =>
    rw [h] at q
    cases q
    exact a c j h
  | none =>
    rw [h] at q
    exact b c j q
end

theorem walk_Z {l : PySem.W.OpenLaw} {n k : Nat} {q : Program} {loose : List Str} {XP : (Str → Option Value) → Heap → Prop} {YP : World → Heap → Prop} {d : DefRec} {CX : World → CXT} {x : Str}
    (hn : l.most = some n) (hn2 : n ≤ sizeLine) (hdf : d.params.defaults = []) (hr : Room k callerA)
    (F : ∀ (w : World) (mg : Str → Option Value) (fa : Addr) (h : Heap), YP w h → h.Ns mainGlobals mg → mg d.name = some (.ref fa) →
      ∃ (K : PySem.W.Frag) (fd : FuncData) (sp : Sp), K.In h ∧ (∀ (s : Shared) (u : Value), BindsTo s fd ⟨[u], []⟩ [(x, u)]) ∧
        (∀ (H : Hp) (a : Addr) (ns : List Int), ns.length ≤ n → (∀ z ∈ ns, Builtin.Int.intBits z ≤ 1048576) → Only H → SqL K H a (ns.map V.int) → sp [.ref a] H (fun v _ => v = .bl true) fun _ _ _ => False) ∧
        ∀ base : Heap, K.In base → base.Ns mainGlobals mg → FnOk l.prog w K mg base (CX w) k fa fd [x] sp)
    (hCX : ∀ (w : World) (H : Hp) (s : Shared) (e : Value) (s' : Shared), CX w [] H s (fun _ _ _ => False) e s' → False) :
    PySem.W.WalkO q loose XP YP l.row.toRowW d [] (fun f vs => PySem.call f vs) := by
  refine Att.attach_callB hn hdf fun w s₀ s₁ mg mb fa o pm cd doc a vs ns G Y ho hd hcd hmg hobj hints hlen hbits hg => ?_
  obtain ⟨K, fd, sp, KX, hb, hsp, hF⟩ := F w mg fa _ Y G.T.g hmg
  exact law_call KX G.T.g G.T.b G.T.builtins G.T.nolimit hg hobj hints (Nat.le_trans hlen hn2) hr hF hb (fun H hO hS => hsp H a ns hlen hbits hO hS) fun H e s' => hCX w H s₁ e s'
theorem cx_none {P : Program} {w : World} {H : Hp} {s : Shared} {e : Value} {s' : Shared} (z : L2.CX P w [] H s (fun _ _ _ => False) e s') : False := by
  obtain ⟨_, _, _, _, _, _, _, _, _, _, _, _, q⟩ := z
  exact q
theorem script_rel {G : Glo} {H : Hp} {a : Addr} {ns : List Int} (hT : G.T = []) (hO : Only H) (hS : SqL G.K H a (ns.map V.int)) : Rel G [] [] H ∧ VRel G [] H (.fls (ns.map D.int)) (.ref a) := by
  refine ⟨⟨rfl, List.nodup_nil, fun i b o e => by simp at e, by rw [hT]; intro p hp; cases hp⟩, ?_⟩
  simp only [VRel]
  refine ⟨a, ns.map V.int, rfl, ?_, ints_rel ns⟩
  rcases hS with h | h
  · rcases h with h | ⟨o, h⟩
    · rcases hO a with z | ⟨o, xs, z⟩
      · rw [h] at z; cases z
      · rw [h] at z; cases z
    · exact .inl ⟨o, h⟩
  · exact .inr h
theorem law_ends {G : Glo} {H : Hp} {a : Addr} {ns : List Int} {F : Fn} (hT : G.T = []) (hO : Only H) (hS : SqL G.K H a (ns.map V.int)) (plain : ∃ S, F [.fls (ns.map D.int)] [] = .ok (.bl true) S) : spD G 1 F [.ref a] H (fun v _ => v = .bl true) fun _ _ _ => False := by
  obtain ⟨R, r⟩ := script_rel hT hO hS
  obtain ⟨S, e⟩ := plain
  refine ⟨[], [], _, R, VRels.cons r VRels.nil, rfl, ?_⟩
  rw [e]
  intro φ' H' _ _ v rv
  simpa only [VRel] using rv
end Z

namespace Z
open PySem PySem.Spec PyProof.Rows L2 He

def okV (C : Cp) (i : Nat) (x : Str) : Bool := decide (C.N[i]? = some x) && (visB C.sc x && (!(x == ("__debug__" : Str)) && !(x == ("__classdict__" : Str))))
def okT (C : Cp) (i : Nat) (x : Str) : Bool := decide (C.N[i]? = some x) && locB C x
def okG (C : Cp) (x : Str) : Bool := glB C x && !(x == ("__debug__" : Str))
def okB (C : Cp) (x : Str) (v : Value) : Bool := glB C x && (!(x == ("__debug__" : Str)) && (decide (x ≠ "__name__") && decide (bootBuiltins x = some v)))
theorem nb {b : Bool} (h : (!b) = true) : b = false := by cases b <;> first | rfl | cases h
section
variable {C : Cp} {x : Str} {pos p : Pos} {i k n : Nat}
theorem pex_v (i : Nat) (h : okV C i x = true) : PEx C (.Name x pos) (dVar i) := by
  obtain ⟨h1, h⟩ := ba h
  obtain ⟨h2, h⟩ := ba h
  obtain ⟨h3, h4⟩ := ba h
  exact pex_var i (of_decide_eq_true h1) h2 (nb h3) (nb h4)
theorem pgx_v (nd : C.N.Nodup) (i : Nat) (h : okT C i x = true) : PGx C (.Name x pos) [i] (gNm i) := by
  obtain ⟨h1, h2⟩ := ba h
  exact pgx_nm i nd (of_decide_eq_true h1) h2
theorem psx_augv (nd : C.N.Nodup) (i : Nat) {o : Operator} {op : Op2} {a : Expr} {da : DE} (h : okT C i x = true) (ho : OpRx C (inplaceOp o) op) (ha : PEx C a da) : PSx C (.AugAssign (.Name x p) o a pos) (sAug i op da) := by
  obtain ⟨h1, h2⟩ := ba h
  exact psx_aug i nd (of_decide_eq_true h1) h2 ho ha
def LenIs (r : DA) (n : Nat) : Prop := ∀ env S xs S', r env S = .ok xs S' → xs.length = n
theorem ln0 : LenIs dNil 0 := fun env S xs S' h => by
  cases h
  rfl
theorem ln1 {a : DE} {r : DA} {n : Nat} (h : LenIs r n) : LenIs (dCons a r) (n + 1) := fun env S xs S' e => by
  unfold dCons at e
  cases q : a env S with
  | bad => rw [q] at e; cases e
  | er y S1 => rw [q] at e; cases e
  | ok y S1 =>
    rw [q] at e
    simp only [Res.bind_ok] at e
    cases q2 : r env S1 with
    | bad => rw [q2] at e; cases e
    | er y S1 => rw [q2] at e; cases e
    | ok ys S2 =>
      rw [q2] at e
      simp only [Res.bind_ok] at e
      cases e
      rw [List.length_cons, h _ _ _ _ q2]
theorem pex_cl {F : Fn} {e : Expr} {es : List Expr} {dr : DA} (h : FnIs C.G k x n F) (hk : Nat.ble k C.k = true) (hg : okG C x = true) (ha : PAx C (e :: es) dr) (hn : LenIs dr n)
    (he : ∀ env, starEach (e :: es) env = (false, eval e env) :: starEach es env := by intro _; rfl) (hpl : ∀ env, (backTo pos (starEach es env)).any (·.1) = false := by intro _; rfl) : PEx C (.Call (.Name x p) (e :: es) [] pos) (dCall F dr) := by
  obtain ⟨h1, h2⟩ := ba hg
  exact pex_call h (Nat.le_of_ble_eq_true hk) h1 ha hn (nb h2) he hpl
theorem pex_bf {id : String} {f : Bf} {e : Expr} {es : List Expr} {dr : DA} (hc : CallRx C (.builtin id) f) (hb : okB C x (.builtin id) = true) (hm : C.G.mg x = none) (ha : PAx C (e :: es) dr)
    (hs : ∀ env, starEach (e :: es) env = (false, eval e env) :: starEach es env := by intro _; rfl) (hp : ∀ env, (backTo pos (starEach es env)).any (·.1) = false := by intro _; rfl) : PEx C (.Call (.Name x p) (e :: es) [] pos) (dCallB f dr) := by
  obtain ⟨h1, h⟩ := ba hb
  obtain ⟨h2, h⟩ := ba h
  obtain ⟨h3, h4⟩ := ba h
  exact pex_callB hc h1 hm (of_decide_eq_true h4) ha (of_decide_eq_true h3) (nb h2) hs hp
theorem pex_bt {T : String} {f : Bf} {e : Expr} {es : List Expr} {dr : DA} (hc : CallRx C (.type T) f) (hb : okB C x (.type T) = true) (hm : C.G.mg x = none) (ha : PAx C (e :: es) dr)
    (hs : ∀ env, starEach (e :: es) env = (false, eval e env) :: starEach es env := by intro _; rfl) (hp : ∀ env, (backTo pos (starEach es env)).any (·.1) = false := by intro _; rfl) : PEx C (.Call (.Name x p) (e :: es) [] pos) (dCallB f dr) := by
  obtain ⟨h1, h⟩ := ba hb
  obtain ⟨h2, h⟩ := ba h
  obtain ⟨h3, h4⟩ := ba h
  exact pex_callTy hc h1 hm (of_decide_eq_true h4) ha (of_decide_eq_true h3) (nb h2) hs hp
theorem pex_tyn {n : String} (hb : okB C x (.type n) = true) (hm : C.G.mg x = none) : PEx C (.Name x pos) (dC (.ty n)) := by
  obtain ⟨h1, h⟩ := ba hb
  obtain ⟨h2, h⟩ := ba h
  obtain ⟨h3, h4⟩ := ba h
  exact pex_ty h1 hm (of_decide_eq_true h4) (of_decide_eq_true h3) (nb h2)
theorem pex_gi {i : Int} (hg : okG C x = true) (hm : ∃ t, C.G.mg x = some (.int i t)) : PEx C (.Name x pos) (dC (.int i)) := by
  obtain ⟨h1, h2⟩ := ba hg
  obtain ⟨t, e⟩ := hm
  exact pex_glob (v := .int i) h1 e ⟨t, rfl⟩ (fun _ _ => by simp only [VRel]) (nb h2)
end

theorem psx_asgS {C : Cp} {t a : Expr} {da : DE} {g : DG} {vs : List Nat} {pos : Pos} (ha : PEx C a da) (hg : PGx C t vs g) (hs : ∀ env : Env, env.scope = C.sc → swapsWithSole [t] a pos.line env = pure false) (hw : ∀ env : Env, env.scope = C.sc → swappedStores [t] a env = pure none)
    (h1 : ∀ env, (assignEach [t] env).map (·.2) = [assign t env] := by intro _; rfl) : PSx C (.Assign [t] a pos) (sAsg da g) := fun X W h =>
  ps_imp (ps_asg (ha X W h) (hg X W h) (hs X.env h.sc) (hw X.env h.sc) (h1 X.env)) fun _ _ _ => rd_asg

structure CmIs (G : Glo) (k c : Nat) (m : Str) (n : Nat) (F : Fn) : Prop where
  ex : ∃ mc p g, ClX.CRead G.K (G.ad c) mc ∧ ClX.CMet G.K (G.ad c) mc m p g ∧ FnA G k g n F
structure MkC (G : Glo) (k c : Nat) (n : Nat) (F : Fn) : Prop where
  ex : ∃ g, Mk G.K (G.ad c) g ∧ FnA G k g n F
theorem MkIs.c {G : Glo} {k c n : Nat} {x : Str} {F : Fn} (h : MkIs G k c x n F) : MkC G k c n F := let ⟨g, a, _, b⟩ := h.ex; ⟨g, a, b⟩
theorem gc_of {cs : List Ck} {fn : List Df} {cl : List Str} {tf : Tf} {pr : Program} {G : Glo} (h : Hyp cs fn cl tf pr G) (i : Nat) {x : Str} {c : Nat} (hc0 : cl[c]? = some x) (e : cs[i]? = some (ckFa (.glo x))) : G.mg x = some (.ref (G.ad c)) := by
  rw [h.cls c x hc0]
  exact h.glo i e
def inner (st : Stmt) (j : Nat) : Stmt := match st with
  | .ClassDef _ _ _ b _ _ _ _ _ _ _ => b.getD j (.Pass ⟨0, 0, 0, 0⟩)
  | _ => .Pass ⟨0, 0, 0, 0⟩
end Z

namespace PySem.W
open PySem PySem.Spec PySem.Calls PyProof.Rows
section
variable {prog : Program} {w : World} {A A₀ : Around} {E : Value → Shared → Prop} {s : Shared} {K : Frag} {x C L f : Addr} {h₀ : Heap} {m : Str → Option Value} {ox : Obj} {od : Option Obj} {name : Str} {b tb : Value}
end
end PySem.W

namespace Z
open PySem PySem.Spec PyProof.Rows L2 He

structure EqIs (G : Glo) (k c : Nat) (F : Fn) : Prop where
  isi : SlX.SIsi G.K (G.ad c)
  ex : ∃ g, PySem.W.findIn G.K (.ref (G.ad c)) "__eq__" = some (some (.ref g)) ∧ PySem.W.isFn G.K (.ref g) = true ∧ FnA G k g 2 F
  ne : PySem.W.findIn G.K (.ref (G.ad c)) "__ne__" = some (some (.builtin "object.__ne__"))
  nf : ∀ t : Ty, PySem.W.notFirst G.K (G.ad c) (.type t.name) = true
section
variable {C : Cp} {k c : Nat} {F : Fn}
end

structure IsiIs (G : Glo) (c : Nat) (cs : List Nat) : Prop where
  ty : ∀ t : Ty, PySem.W.kitOne G.K (.type t.name) (.ref (G.ad c)) = some false
  own : ∀ c' ∈ cs, SlX.SCls G.K (G.ad c') ∧ SlX.SIsi G.K (G.ad c') ∧ PySem.W.kitOne G.K (.ref (G.ad c')) (.ref (G.ad c)) = some (c' == c)
structure IsiNo (G : Glo) (cs : List Nat) : Prop where
  own : ∀ c' ∈ cs, SlX.SCls G.K (G.ad c') ∧ SlX.SIsi G.K (G.ad c') ∧ ∀ t : Ty, t ≠ .non → PySem.W.kitOne G.K (.ref (G.ad c')) (.type t.name) = some false
structure StrIs (G : Glo) (k c : Nat) (F : Fn) : Prop where
  ex : ∃ g, PySem.W.findIn G.K (.ref (G.ad c)) "__str__" = some (some (.ref g)) ∧ PySem.W.isFn G.K (.ref g) = true ∧ FnA G k g 1 F
section
variable {cs : List Ck} {fn : List Df} {cl : List Str} {tf : Tf} {pr : Program} {G : Glo} {c k : Nat} {F : Fn} {x : Str}
theorem IsiIs.add {cs' : List Nat} (h : IsiIs G c cs') {c' : Nat} (h1 : SlX.SCls G.K (G.ad c') ∧ SlX.SIsi G.K (G.ad c') ∧ PySem.W.kitOne G.K (.ref (G.ad c')) (.ref (G.ad c)) = some (c' == c)) : IsiIs G c (c' :: cs') :=
  ⟨h.ty, fun d hd => by
    rcases List.mem_cons.mp hd with hd | hd
    · rw [hd]; exact h1
    · exact h.own d hd⟩
theorem IsiNo.add {a b : List Nat} (h : IsiNo G a) (h' : IsiNo G b) : IsiNo G (a ++ b) := ⟨fun d hd => (List.mem_append.mp hd).elim (h.own d) (h'.own d)⟩
end
end Z

namespace L2
open PySem PySem.Spec PyProof.Rows
section
variable {X : Cx}
end
end L2
namespace Z
open PySem PySem.Spec PyProof.Rows L2
end Z

namespace HT
open PySem PySem.W PySem.Calls PySem.Spec PyProof.Rows
section
variable {prog : Program} {w : World} {A : Around} {E : Value → Shared → Prop} {s : Shared}
end
end HT
namespace L2
open PySem PySem.Spec PyProof.Rows
end L2
namespace Z
open PySem PySem.Spec PyProof.Rows L2 He
def ckBi (x : Str) (id : String) : Ck := fun K => match PySem.W.nsIn K mainGlobals x with
  | some (some (.builtin i)) => decide (i = id)
  | _ => false
theorem Hyp.bi {cs : List Ck} {fn : List Df} {cl : List Str} {tf : Tf} {pr : Program} {G : Glo} (h : Hyp cs fn cl tf pr G) (i : Nat) {x : Str} {id : String} (e : cs[i]? = some (ckBi x id)) : G.mg x = some (.builtin id) := by
  have c2 : (match PySem.W.nsIn G.K mainGlobals x with
    | some (some (.builtin j)) => decide (j = id)
    | _ => false) = true := h.ck i e
  split at c2
  · rename_i j q
    rw [of_decide_eq_true c2] at q
    exact h.mgns x _ q
  · cases c2
def fGcd : D → D → Store → Option (D × Store) := fun d e S => match d, e with
  | .int i, .int j => some (.int ((Nat.gcd i.natAbs j.natAbs : Nat) : Int), S)
  | _, _ => none
theorem cx_gcd {C : Cp} : CallRx C (.builtin "math.gcd") (b2 fGcd) := CallRx.imp (fun _ => _) (fun _ _ _ => cr_gcd) fun X W hx φ S H ds vs Q R r P => by
  obtain ⟨d, e, v, w, rfl, r1, r2, P⟩ := b2_some P r
  unfold fGcd at P
  split at P
  · simp only [VRel] at r1 r2
    subst r1 r2
    exact ⟨_, _, rfl, P.now R (by simp only [VRel])⟩
  · exact P.elim
theorem pex_bm2 {C : Cp} {x : Str} {p pos : Pos} {id : String} {f : Bf} {e : Expr} {es : List Expr} {dr : DA} (hc : CallRx C (.builtin id) f) (hg : okG C x = true) (hm : C.G.mg x = some (.builtin id)) (ha : PAx C (e :: es) dr)
    (hs : ∀ env, starEach (e :: es) env = (false, eval e env) :: starEach es env := by intro _; rfl) (hp : ∀ env, (backTo pos (starEach es env)).any (·.1) = false := by intro _; rfl) : PEx C (.Call (.Name x p) (e :: es) [] pos) (dCallB f dr) := fun X W h => by
  obtain ⟨h1, h2⟩ := ba hg
  exact pe_imp (pe_callBfun (hc X W h) (glB_ok h1 h) (by rw [h.mg]; exact hm) (ha X W h) (nb h2) (hs X.env) (hp X.env)) fun _ _ _ => rd_callB
structure LenOf (G : Glo) (k c : Nat) (F : Fn) : Prop where
  ex : ∃ g, PySem.W.findIn G.K (.ref (G.ad c)) "__len__" = some (some (.ref g)) ∧ PySem.W.isFn G.K (.ref g) = true ∧ FnA G k g 1 F
end Z

namespace ZL
open PySem PySem.SeqAt
open AutoSeq1 (wpAny_loadPart')
open MeetsSeq MeetsSeq2 MeetsSeq3 SeqRoads2
section
variable {prog : Program} {w : World} {A : Around} {R : Result → Shared → Prop}
theorem go (p q : Addr) (N : Nat) (J : Nat → Shared → Prop) (hJ : GQ.ListI prog w A (fun e s' => R (.error e) s') p q N J) (stop : ∀ s, J N s → R (.ok (.ret (.bool false))) s) :
    ∀ (r k : Nat), k + r = N → ∀ s, J k s → wpAny (model prog w) A.in1 (Builtin.«list.__eq__.loop» ⟨[.ref p, .ref q, rawInt k, rawInt 3], []⟩) (GQ.FinOf prog w A R) (fun e s' => R (.error e) s') s := by
  intro r
  induction r with
  | zero =>
    intro k hk s hs
    obtain ⟨xs, ys, m, m', gp, gq, lx, ly, _⟩ := hJ _ _ hs
    obtain rfl : k = N := by omega
    have out := stop s hs
    obtain ⟨hp, g, d, tk, os⟩ := s
    wp_walk using wpAny_loadPart' gp, wpAny_loadPart' gq
    rw [show xs[((k : Nat) : Int).toNat]? = none by simp; omega, show ys[((k : Nat) : Int).toNat]? = none by simp; omega]
    wp_walk using wpAny_loadPart' gp, wpAny_loadPart' gq
    show R (.ok (.ret (.bool (xs.size != ys.size)))) _
    rw [lx, ly]
    simpa using out
  | succ r ih =>
    intro k hk s hs
    obtain ⟨xs, ys, m, m', gp, gq, lx, ly, step⟩ := hJ _ _ hs
    have kx : k < xs.size := by omega
    have ky : k < ys.size := by omega
    have now := step kx ky
    obtain ⟨hp, g, d, tk, os⟩ := s
    wp_walk using wpAny_loadPart' gp, wpAny_loadPart' gq
    rw [show xs[((k : Nat) : Int).toNat]? = some xs[k] by simp [kx], show ys[((k : Nat) : Int).toNat]? = some ys[k] by simp [ky]]
    refine wpAny_bind (wpAny_mono now (fun t s2 z => ?_) fun _ _ x => x)
    obtain ⟨rfl, z⟩ := z
    have more := ih (k + 1) (by omega) s2 z
    obtain ⟨hp2, g2, d2, tk2, os2⟩ := s2
    wp_walk
    rw [show ((k : Int) + 1) = ((k + 1 : Nat) : Int) by omega]
    refine ⟨plainId_quiet plain_eq_loop _, codeAny_builtin entry_eq_loop ?_⟩
    rw [Around.under_plainId plain_eq_loop _]
    exact more
theorem ne (p q : Addr) (N : Nat) (J : Nat → Shared → Prop) (hJ : GQ.ListI prog w A (fun e s' => R (.error e) s') p q N J) (stop : ∀ s, J N s → R (.ok (.ret (.bool false))) s) {s : Shared} (hs : J 0 s) :
    wpAny (model prog w) A.in1 (Builtin.«list.__ne__» ⟨[.ref p, .ref q], []⟩) (GQ.FinOf prog w A R) (fun e s' => R (.error e) s') s := by
  obtain ⟨xs, ys, m, m', gp, gq, lx, ly, _⟩ := hJ _ _ hs
  have more := go (A := A) (R := R) p q N J hJ stop N 0 (by omega) s hs
  obtain ⟨hp, g, d, tk, os⟩ := s
  have sub := AutoSeq1.sub_list_list
  have same : ¬ (xs.size != ys.size) = true := by simp [lx, ly]
  wp_walk using wpAny_loadPart' gp, wpAny_loadPart' gq
  refine ⟨plainId_quiet plain_eq_loop _, codeAny_builtin entry_eq_loop ?_⟩
  rw [Around.under_plainId plain_eq_loop _]
  exact more
end
section
variable {prog : Program} {w : World} {A : Around} {E : Value → Shared → Prop} {s : Shared}
end
end ZL
namespace Z
open PySem PySem.Spec PyProof.Rows L2 He
def ckTup (x : Str) (ns : List Int) : Ck := fun K => match PySem.W.nsIn K mainGlobals x with
  | some (some (.ref a)) => (match K.lookup a with
    | some ⟨.type "tuple", none, .seq its _, _⟩ => relAll (ns.map V.int) its.toList
    | _ => false)
  | _ => false
theorem ckTup_ok {K : PySem.W.Frag} {x : Str} {ns : List Int} (hl : ns.length ≤ 1000) (h : ckTup x ns K = true) : ∃ a, PySem.W.nsIn K mainGlobals x = some (some (.ref a)) ∧ ∀ H, SqT K H a (ns.map V.int) := by
  unfold ckTup at h
  split at h
  · rename_i a e
    split at h
    · rename_i its n sl el
      have r := relAll_ok h
      refine ⟨a, e, fun H => .inr ⟨_, its, n, el, rfl, rfl, ?_, r⟩⟩
      have := r.length
      rw [List.length_map] at this
      rw [← Array.length_toList, ← this, sizeLine_eq]
      omega
    · cases h
  · cases h
theorem Hyp.tup {cs : List Ck} {fn : List Df} {cl : List Str} {tf : Tf} {pr : Program} {G : Glo} (h : Hyp cs fn cl tf pr G) (i : Nat) {x : Str} {ns : List Int} (e : cs[i]? = some (ckTup x ns)) (hl : ns.length ≤ 1000) : ∃ a, G.mg x = some (.ref a) ∧ ∀ H, SqT G.K H a (ns.map V.int) := by
  obtain ⟨a, e1, e2⟩ := ckTup_ok hl (h.ck i e)
  exact ⟨a, h.mgns x _ e1, e2⟩
end Z

namespace Z
open PySem PySem.Spec PyProof.Rows L2
section
variable {X : Cx}
end
section
variable {C : Cp}
end
end Z

namespace Z
open PySem PySem.Spec PyProof.Rows L2 He
def keyD : D → Option Key
  | .int i => some (.inl i)
  | .str s => some (.inr s)
  | _ => none
theorem keyD_rel {G : Glo} {φ : List Addr} {H : Hp} {d : D} {v : V} {k : Key} (h : keyD d = some k) (r : VRel G φ H d v) : v = kV k := by
  cases d with
  | int i => cases h; simp only [VRel] at r; exact r
  | str s => cases h; simp only [VRel] at r; exact r
  | _ => cases h
def hasKD (kvs : List (Key × D)) (k : Key) : Bool := kvs.any fun kv => decide (kv.1 = k)
def putKD (kvs : List (Key × D)) (k : Key) (d : D) : List (Key × D) :=
  if hasKD kvs k = true then kvs.map (fun kv => if kv.1 = k then (kv.1, d) else kv) else kvs ++ [(k, d)]
def valKD (kvs : List (Key × D)) (k : Key) : Option D := (kvs.find? fun kv => decide (kv.1 = k)).map (·.2)
section
variable {G : Glo} {φ : List Addr} {H : Hp} {k : Key} {d : D} {v : V}
theorem KRel.len : ∀ {l : List (Key × D)} {m : List (Key × V)}, KRel G φ H l m → l.length = m.length
  | [], m, h => by simp only [KRel] at h; subst h; rfl
  | (k, d) :: r, m, h => by
    simp only [KRel] at h
    obtain ⟨v, ks, rfl, _, t⟩ := h
    simp [KRel.len t]
theorem KRel.has : ∀ {l : List (Key × D)} {m : List (Key × V)}, KRel G φ H l m → hasKD l k = m.any fun kv => decide (kv.1 = k)
  | [], m, h => by simp only [KRel] at h; subst h; rfl
  | (k0, d) :: r, m, h => by
    simp only [KRel] at h
    obtain ⟨v, ks, rfl, _, t⟩ := h
    have := KRel.has t
    unfold hasKD at this ⊢
    simp [this]
theorem KRel.repl (rv : VRel G φ H d v) : ∀ {l : List (Key × D)} {m : List (Key × V)}, KRel G φ H l m → KRel G φ H (l.map fun kv => if kv.1 = k then (kv.1, d) else kv) (m.map fun kv => if kv.1 = k then (kv.1, v) else kv)
  | [], m, h => by simp only [KRel] at h; subst h; simp only [List.map_nil, KRel]
  | (k0, d0) :: r, m, h => by
    simp only [KRel] at h
    obtain ⟨v0, ks, rfl, r0, t⟩ := h
    have := KRel.repl rv t
    simp only [List.map_cons]
    by_cases e : k0 = k
    · simp only [if_pos e, KRel]
      exact ⟨v, _, rfl, rv, this⟩
    · simp only [if_neg e, KRel]
      exact ⟨v0, _, rfl, r0, this⟩
theorem KRel.snoc (rv : VRel G φ H d v) : ∀ {l : List (Key × D)} {m : List (Key × V)}, KRel G φ H l m → KRel G φ H (l ++ [(k, d)]) (m ++ [(k, v)])
  | [], m, h => by simp only [KRel] at h; subst h; exact ⟨v, [], rfl, rv, rfl⟩
  | (k0, d0) :: r, m, h => by
    simp only [KRel] at h
    obtain ⟨v0, ks, rfl, r0, t⟩ := h
    exact ⟨v0, _, rfl, r0, KRel.snoc rv t⟩
theorem KRel.put {l : List (Key × D)} {m : List (Key × V)} (h : KRel G φ H l m) (rv : VRel G φ H d v) : KRel G φ H (putKD l k d) (putK m k v) := by
  unfold putKD putK
  rw [h.has]
  split
  · exact h.repl rv
  · exact h.snoc rv
theorem KRel.val : ∀ {l : List (Key × D)} {m : List (Key × V)}, KRel G φ H l m → (valKD l k = none ∧ valV m k = none) ∨ ∃ d v, valKD l k = some d ∧ valV m k = some v ∧ VRel G φ H d v
  | [], m, h => by simp only [KRel] at h; subst h; exact .inl ⟨rfl, rfl⟩
  | (k0, d0) :: r, m, h => by
    simp only [KRel] at h
    obtain ⟨v0, ks, rfl, r0, t⟩ := h
    by_cases e : k0 = k
    · refine .inr ⟨d0, v0, ?_, ?_, r0⟩
      · simp [valKD, List.find?_cons, e]
      · simp [valV, List.find?_cons, e]
    · have := KRel.val t
      have e1 : valKD ((k0, d0) :: r) k = valKD r k := by simp [valKD, List.find?_cons, e]
      have e2 : valV ((k0, v0) :: ks) k = valV ks k := by simp [valV, List.find?_cons, e]
      rw [e1, e2]
      exact this
end
section
variable {C : Cp} {kx elt tg iter : Expr} {ifs : List Expr} {scope : Scope} {own : List (Str × Nat)} {pos : Pos} {it : DI} {g : DG} {t : DT} {kd b : DE} {vs : List Nat}
theorem grow_dk {H : Hp} {p : Addr} {vs us : List (Key × V)} (h : H p = some (.dK vs)) : Grow H (upd H p (.dK us)) := Grow.mut h trivial
end
section
variable {C : Cp}
end
def pairD : D → Option (Key × D)
  | .tup [k, d] => (keyD k).map fun q => (q, d)
  | _ => none
def mergeKD (kvs more : List (Key × D)) : List (Key × D) := more.foldl (fun acc kv => putKD acc kv.1 kv.2) kvs
theorem KRel.merge {G : Glo} {φ : List Addr} {H : Hp} : ∀ {more : List (Key × D)} {rs : List (Key × V)} {kvs : List (Key × D)} {vs : List (Key × V)}, KRel G φ H more rs → KRel G φ H kvs vs → KRel G φ H (mergeKD kvs more) (mergeK vs rs)
  | [], rs, kvs, vs, h, q => by simp only [KRel] at h; subst h; exact q
  | (k, d) :: r, rs, kvs, vs, h, q => by
    simp only [KRel] at h
    obtain ⟨v, ks, rfl, r0, t⟩ := h
    exact KRel.merge (kvs := putKD kvs k d) (vs := putK vs k v) t (q.put r0)
theorem pairs_rel {G : Glo} {φ : List Addr} {H : Hp} : ∀ {ds : List D} {vs : List V} {kvs : List (Key × D)}, VRels G φ H ds vs → seqO (ds.map pairD) = some kvs →
    ∃ (ps : List Addr) (kws : List (Key × V)), vs = ps.map V.ref ∧ Paired (fun p kv => SqT G.K H p [kV kv.1, kv.2]) ps kws ∧ KRel G φ H kvs kws
  | [], vs, kvs, h, q => by
    simp only [VRels] at h
    subst h
    cases q
    exact ⟨[], [], rfl, .nil, rfl⟩
  | d :: ds, vs, kvs, h, q => by
    simp only [VRels] at h
    obtain ⟨v, vs', rfl, r1, r2⟩ := h
    rw [List.map_cons] at q
    unfold seqO at q
    cases e1 : pairD d with
    | none => rw [e1] at q; cases q
    | some kd =>
      cases e2 : seqO (ds.map pairD) with
      | none => rw [e1, e2] at q; cases q
      | some ks =>
        rw [e1, e2] at q
        cases q
        obtain ⟨ps, kws, ev, pp, kr⟩ := pairs_rel r2 e2
        subst ev
        unfold pairD at e1
        split at e1
        · rename_i k0 d0
          cases ek : keyD k0 with
          | none => rw [ek] at e1; cases e1
          | some kk =>
            rw [ek] at e1
            cases e1
            simp only [VRel] at r1
            obtain ⟨a, us, rfl, s, rs⟩ := r1
            simp only [VRels] at rs
            obtain ⟨v1, _, rfl, t1, v2, _, rfl, t2, rfl⟩ := rs
            have := keyD_rel ek t1
            subst this
            exact ⟨a :: ps, (kk, v2) :: kws, rfl, .cons s pp, ⟨v2, kws, rfl, t2, kr⟩⟩
        · cases e1
end Z

namespace Z
open PySem PySem.Spec

inductive Tg {α : Type} (Q : α → Store → Prop) : Type where
  | mk
def WP {α : Type} (r : Res α) (Q : α → Store → Prop) (_t : Tg Q := .mk) : Prop := ∃ a S, r = .ok a S ∧ Q a S
section
variable {α β : Type}
@[simp] theorem WP_ok {a : α} {S : Store} {Q : α → Store → Prop} : WP (.ok a S) Q ↔ Q a S :=
  ⟨fun ⟨_, _, e, q⟩ => by cases e; exact q, fun q => ⟨_, _, rfl, q⟩⟩
@[simp] theorem WP_bad {Q : α → Store → Prop} : WP (.bad : Res α) Q ↔ False := ⟨fun ⟨_, _, e, _⟩ => (nomatch e), fun q => q.elim⟩
@[simp] theorem WP_bind {r : Res α} {f : α → Store → Res β} {Q : β → Store → Prop} : WP (r.bind f) Q ↔ WP r fun a S => WP (f a S) Q := by
  cases r with
  | ok a S => simp
  | er x S => exact ⟨fun ⟨_, _, e, _⟩ => (nomatch e), fun ⟨_, _, e, _⟩ => (nomatch e)⟩
  | bad => exact ⟨fun ⟨_, _, e, _⟩ => (nomatch e), fun ⟨_, _, e, _⟩ => (nomatch e)⟩
@[simp] theorem WP_cut {r : Res α} {Q : α → Store → Prop} : WP r.cut Q ↔ WP r Q := by
  cases r with
  | ok a S => exact Iff.rfl
  | er x S => exact ⟨fun ⟨_, _, e, _⟩ => (nomatch e), fun ⟨_, _, e, _⟩ => (nomatch e)⟩
  | bad => exact Iff.rfl
theorem WP_mono {r : Res α} {Q Q' : α → Store → Prop} (h : WP r Q) (k : ∀ a S, Q a S → Q' a S) : WP r Q' := let ⟨a, S, e, q⟩ := h; ⟨a, S, e, k a S q⟩
end
def Sub (S S' : Store) : Prop := ∀ (j : Nat) (o : O), S[j]? = some o → S'[j]? = some o
theorem Sub.refl (S : Store) : Sub S S := fun _ _ h => h
theorem Sub.trans {S S1 S2 : Store} (a : Sub S S1) (b : Sub S1 S2) : Sub S S2 := fun j o h => b j o (a j o h)
theorem Sub.push (S : Store) (o : O) : Sub S (S ++ [o]) := fun j u h => by
  rw [List.getElem?_append_left (List.getElem?_eq_some_iff.mp h).1]; exact h
@[simp] theorem push_at {S : Store} {o : O} : (S ++ [o])[S.length]? = some o := by simp
def Kp (i : Nat) (S S' : Store) : Prop := ∀ (j : Nat) (o : O), j ≠ i → S[j]? = some o → S'[j]? = some o
theorem Sub.kp {i : Nat} {S S' : Store} (h : Sub S S') : Kp i S S' := fun j o _ e => h j o e
theorem Kp.refl (i : Nat) (S : Store) : Kp i S S := fun _ _ _ h => h
theorem Kp.trans {i : Nat} {S S1 S2 : Store} (a : Kp i S S1) (b : Kp i S1 S2) : Kp i S S2 := fun j o n h => b j o n (a j o n h)
theorem Kp.set {i : Nat} {S : Store} {o : O} : Kp i S (S.set i o) := fun j u n h => by rw [List.getElem?_set_ne (Ne.symm n)]; exact h
theorem set_at {S : Store} {i : Nat} {o u : O} (h : S[i]? = some o) : (S.set i u)[i]? = some u := List.getElem?_set_self (List.getElem?_eq_some_iff.mp h).1

section
variable {env : En} {S : Store} {i j k n : Nat} {a b c d : DE} {r : DA} {t u : DT} {s s' : DS} {g h : DG} {gs : DGs} {x y z : D} {xs : List D} {op op' : Op2} {F : Fn} {f : Bf} {it : DI} {J : Itd}
@[simp] theorem q_var : dVar i env S = match env[i]? with
  | some (some d) => .ok d S
  | _ => .bad := rfl
@[simp] theorem q_c : dC x env S = .ok x S := rfl
@[simp] theorem q_bin : dBin op a b env S = (a env S).bind fun x S1 => (b env S1).bind fun y S2 => ofO (op x y S2) := rfl
@[simp] theorem q_un {op : Op1} : dUn op a env S = (a env S).bind fun x S1 => ofO (op x S1) := rfl
@[simp] theorem q_ofO {α : Type} {v : α} : ofO (some (v, S)) = .ok v S := rfl
@[simp] theorem q_ofN {α : Type} : (ofO (none : Option (α × Store)) : Res α) = .bad := rfl
@[simp] theorem q_chain : dChain op op' a b c env S = (a env S).bind fun x S1 => (b env S1).bind fun y S2 => (ofO (op x y S2)).bind fun z S3 => match z with
    | .bl true => (c env S3).bind fun w S4 => ofO (op' y w S4)
    | .bl false => .ok (.bl false) S3
    | _ => .bad := rfl
@[simp] theorem q_tst : dTst a env S = (a env S).bind fun x S1 => ofB (truD x S1) S1 := rfl
@[simp] theorem q_tstB : dTstB a env S = (a env S).bind fun x S1 => match x with
    | .bl k => .ok k S1
    | _ => .bad := rfl
@[simp] theorem q_and2 : tAnd2 t u env S = (t env S).bind fun c S1 => if c = true then u env S1 else .ok false S1 := rfl
@[simp] theorem q_or2 : tOr2 t u env S = (t env S).bind fun c S1 => if c = true then .ok true S1 else u env S1 := rfl
@[simp] theorem q_not1 : tNot1 t env S = (t env S).bind fun c S1 => .ok (!c) S1 := rfl
@[simp] theorem q_andV : dAndV a b env S = (a env S).bind fun x S1 => (ofB (truD x S1) S1).bind fun k S1 => if k = true then b env S1 else .ok x S1 := rfl
@[simp] theorem q_orV : dOrV a b env S = (a env S).bind fun x S1 => (ofB (truD x S1) S1).bind fun k S1 => if k = true then .ok x S1 else b env S1 := rfl
@[simp] theorem q_notV : dNotV a env S = (a env S).bind fun x S1 => (ofB (truD x S1) S1).bind fun k S1 => .ok (.bl (!k)) S1 := rfl
@[simp] theorem q_if : dIf t a b env S = (t env S).bind fun k S1 => if k = true then a env S1 else b env S1 := rfl
@[simp] theorem q_nil : dNil env S = .ok [] S := rfl
@[simp] theorem q_cons : dCons a r env S = (a env S).bind fun x S1 => (r env S1).bind fun xs S2 => .ok (x :: xs) S2 := rfl
@[simp] theorem q_tup : dTup r env S = (r env S).bind fun xs S1 => if xs.length ≤ sl then .ok (.tup xs) S1 else .bad := rfl
@[simp] theorem q_lst : dLst r env S = (r env S).bind fun xs S1 => mkL xs S1 := rfl
@[simp] theorem q_next : sNext env S = .ok (.nx env) S := rfl
@[simp] theorem q_seq : sSeq s s' env S = (s env S).bind fun f S1 => match f with
  | .nx e => s' e S1
  | o => .ok o S1 := rfl
@[simp] theorem q_expr : sExpr a env S = (a env S).bind fun _ S1 => .ok (.nx env) S1 := rfl
@[simp] theorem q_ret : sRet a env S = (a env S).bind fun x S1 => .ok (.rt x) S1 := rfl
@[simp] theorem q_retN : sRetN env S = .ok (.rt .non) S := rfl
@[simp] theorem q_brk : sBrk env S = .ok (.bk env) S := rfl
@[simp] theorem q_cnt : sCnt env S = .ok (.ct env) S := rfl
@[simp] theorem q_sif : sIf t s s' env S = (t env S).bind fun k S1 => if k = true then s env S1 else s' env S1 := rfl
@[simp] theorem q_never : sNever env S = .bad := rfl
@[simp] theorem q_gnm : gNm i x env S = .ok (env.set i (some x)) S := rfl
@[simp] theorem q_gtup : gTup n gs x env S = match x with
  | .tup ds => if ds.length = n then gs ds env S else .bad
  | .ref i => (match S[i]? with
    | some (.lst ds) => if ds.length = n then gs ds env S else .bad
    | _ => .bad)
  | _ => .bad := by
  unfold gTup
  cases x <;> rfl
@[simp] theorem q_asg : sAsg a g env S = (a env S).bind fun x S1 => (g x env S1).bind fun e S2 => .ok (.nx e) S2 := rfl
@[simp] theorem q_call : dCall F r env S = (r env S).bind fun xs S1 => F xs S1 := rfl
@[simp] theorem q_callB : dCallB f r env S = (r env S).bind fun xs S1 => ofO (f xs S1) := rfl
@[simp] theorem q_seqi : iSeq a env S = (a env S).bind fun x S1 => match seqJ x S1 with
  | some J => .ok J S1
  | none => .bad := rfl
@[simp] theorem q_for : sFor it g s env S = (it env S).bind fun J S1 => forGo J g s FUEL 0 env S1 := rfl
@[simp] theorem q_while : sWhile t s env S = whileGo t s FUEL env S := rfl
end
theorem wp_forGo {J : Itd} {g : DG} {b : DS} {Q : Fl → Store → Prop} (n : Nat) (I : Nat → En → Store → Prop)
    (hs : ∀ k env S, k < n → I k env S → ∃ d, J k S = some (some d) ∧ WP (g d env S) fun e S1 => WP (b e S1) fun fl S2 => match fl with
      | .nx e' => I (k + 1) e' S2
      | .ct e' => I (k + 1) e' S2
      | .bk e' => Q (.nx e') S2
      | .rt d => Q (.rt d) S2)
    (hd : ∀ env S, I n env S → J n S = some none ∧ Q (.nx env) S) : ∀ (m k : Nat) (env : En) (S : Store), n < k + m → k ≤ n → I k env S → WP (forGo J g b m k env S) Q
  | 0, k, env, S, h1, h2, _ => by omega
  | m + 1, k, env, S, h1, h2, hI => by
    unfold forGo
    by_cases hk : k = n
    · subst hk
      obtain ⟨e, q⟩ := hd env S hI
      rw [e]
      exact WP_ok.mpr q
    · obtain ⟨d, e, w⟩ := hs k env S (by omega) hI
      rw [e]
      dsimp only
      rw [WP_bind]
      refine WP_mono w fun e1 S1 w1 => ?_
      rw [WP_bind]
      refine WP_mono w1 fun fl S2 w2 => ?_
      cases fl with
      | nx e' => exact wp_forGo n I hs hd m (k + 1) e' S2 (by omega) (by omega) w2
      | ct e' => exact wp_forGo n I hs hd m (k + 1) e' S2 (by omega) (by omega) w2
      | bk e' => exact WP_ok.mpr w2
      | rt d => exact WP_ok.mpr w2
theorem wp_for {J : Itd} {g : DG} {b : DS} {Q : Fl → Store → Prop} {env : En} {S : Store} (n : Nat) (I : Nat → En → Store → Prop) (hn : n ≤ 2 ^ 60) (h0 : I 0 env S)
    (hs : ∀ k env S, k < n → I k env S → ∃ d, J k S = some (some d) ∧ WP (g d env S) fun e S1 => WP (b e S1) fun fl S2 => match fl with
      | .nx e' => I (k + 1) e' S2
      | .ct e' => I (k + 1) e' S2
      | .bk e' => Q (.nx e') S2
      | .rt d => Q (.rt d) S2)
    (hd : ∀ env S, I n env S → J n S = some none ∧ Q (.nx env) S) : WP (forGo J g b FUEL 0 env S) Q :=
  wp_forGo n I hs hd FUEL 0 env S (by unfold FUEL; omega) (Nat.zero_le _) h0
theorem wp_lcGo {J : Itd} {g : DG} {t : DT} {b : DE} {env : En} {Q : List D → Store → Prop} (n : Nat) (I : Nat → List D → Store → Prop)
    (hs : ∀ k acc S, k < n → I k acc S → acc.length < sl ∧ ∃ d, J k S = some (some d) ∧ WP (g d env S) fun e S1 => WP (t e S1) fun c S2 => if c = true then WP (b e S2) fun y S3 => I (k + 1) (acc ++ [y]) S3 else I (k + 1) acc S2)
    (hd : ∀ acc S, I n acc S → J n S = some none ∧ Q acc S) : ∀ (m k : Nat) (acc : List D) (S : Store), n < k + m → k ≤ n → I k acc S → WP (lcGo J g t b env m k acc S) Q
  | 0, k, acc, S, h1, h2, _ => by omega
  | m + 1, k, acc, S, h1, h2, hI => by
    unfold lcGo
    by_cases hk : k = n
    · subst hk
      obtain ⟨e, q⟩ := hd acc S hI
      rw [e]
      exact WP_ok.mpr q
    · obtain ⟨hl, d, e, w⟩ := hs k acc S (by omega) hI
      rw [e]
      dsimp only
      rw [WP_bind, WP_cut]
      refine WP_mono w fun e1 S1 w1 => ?_
      rw [WP_bind, WP_cut]
      refine WP_mono w1 fun c S2 w2 => ?_
      by_cases hc : c = true
      · rw [if_pos hc] at w2 ⊢
        rw [WP_bind, WP_cut]
        refine WP_mono w2 fun y S3 w3 => ?_
        rw [if_pos hl]
        exact wp_lcGo n I hs hd m (k + 1) _ S3 (by omega) (by omega) w3
      · rw [if_neg hc] at w2 ⊢
        exact wp_lcGo n I hs hd m (k + 1) acc S2 (by omega) (by omega) w2
theorem wp_lc {it : DI} {g : DG} {t : DT} {b : DE} {own : List Nat} {env : En} {S : Store} {Q : D → Store → Prop} (h : WP (it env S) fun J S1 => ∃ (n : Nat) (I : Nat → List D → Store → Prop), n ≤ 2 ^ 60 ∧ I 0 [] S1 ∧
    (∀ k acc S, k < n → I k acc S → acc.length < sl ∧ ∃ d, J k S = some (some d) ∧ WP (g d (wipeE env own) S) fun e S1 => WP (t e S1) fun c S2 => if c = true then WP (b e S2) fun y S3 => I (k + 1) (acc ++ [y]) S3 else I (k + 1) acc S2) ∧
    ∀ acc S, I n acc S → J n S = some none ∧ Q (.ref S.length) (S ++ [.lst acc])) : WP (dLc it g t b own env S) Q := by
  unfold dLc
  rw [WP_bind]
  refine WP_mono h fun J S1 ⟨n, I, hn, h0, hs, hd⟩ => ?_
  rw [WP_bind]
  refine wp_lcGo (Q := fun acc S2 => WP (.ok (.ref S2.length) (S2 ++ [.lst acc])) Q) n I hs (fun acc S q => ⟨(hd acc S q).1, WP_ok.mpr (hd acc S q).2⟩) FUEL 0 [] S1 (by unfold FUEL; omega) (Nat.zero_le _) h0
section
variable {S : Store} {i j : Int} {r k : Nat} {ds : List D} {x y d : D} {env : En} {a b e : DE} {op : Op2} {bl bl' : Bool} {f : D → Store → Option (D × Store)} {f2 : D → D → Store → Option (D × Store)}
@[simp] theorem o_add : oAdd (.int i) (.int j) S = some (.int (i + j), S) := rfl
@[simp] theorem o_addI : oAddI (.int i) (.int j) S = some (.int (i + j), S) := rfl
@[simp] theorem o_sub : oSubI (.int i) (.int j) S = some (.int (i - j), S) := rfl
@[simp] theorem o_lt : oLtI (.int i) (.int j) S = some (.bl (decide (i < j)), S) := rfl
@[simp] theorem o_le : oLeI (.int i) (.int j) S = some (.bl (decide (i ≤ j)), S) := rfl
@[simp] theorem o_gt : oGtI (.int i) (.int j) S = some (.bl (decide (j < i)), S) := rfl
@[simp] theorem o_ge : oGeI (.int i) (.int j) S = some (.bl (decide (j ≤ i)), S) := rfl
@[simp] theorem o_neg : oNeg (.int i) S = some (.int (-i), S) := rfl
theorem o_mulI (h : mulOk i j = true) : oMulI (.int i) (.int j) S = some (.int (i * j), S) := if_pos h
theorem o_mul (h : mulOk i j = true) : oMulA (.int i) (.int j) S = some (.int (i * j), S) := by
  unfold oMulA orO
  rw [o_mulI h]
theorem o_mod (h : 0 < j) : oModI (.int i) (.int j) S = some (.int (i % j), S) := if_pos (decide_eq_true h)
theorem o_div (h : divOk i j = true) : oDivI (.int i) (.int j) S = some (.int (i / j), S) := if_pos h
theorem o_pow (h : powOk i j = true) : oPowI (.int i) (.int j) S = some (.int (i ^ j.toNat), S) := if_pos h
@[simp] theorem o_ixR : oIx (.ref r) (.int i) S = (itemsD S (.ref r)).bind fun ds => (L2.atI ds i).map fun x => (x, S) := rfl
@[simp] theorem o_ixT : oIx (.tup ds) (.int i) S = (L2.atI ds i).map fun x => (x, S) := rfl
@[simp] theorem o_ixF : oIx (.fls ds) (.int i) S = (L2.atI ds i).map fun x => (x, S) := rfl
@[simp] theorem itemsT : itemsD S (.tup ds) = some ds := rfl
@[simp] theorem itemsF : itemsD S (.fls ds) = some ds := rfl
theorem itemsR (h : S[r]? = some (.lst ds)) : itemsD S (.ref r) = some ds := by simp only [itemsD, h]
theorem itemsLR (h : S[r]? = some (.lst ds)) : itemsL S (.ref r) = some ds := by simp only [itemsL, h]
theorem seqR (h : S[r]? = some (.lst ds)) : seqJ (.ref r) S = some (jL r) := by simp only [seqJ, h]
@[simp] theorem seqT : seqJ (.tup ds) S = some (jT ds) := rfl
@[simp] theorem seqF : seqJ (.fls ds) S = some (jT ds) := rfl
theorem ix_lit {n : Nat} (h : n < ds.length) : L2.atI ds (n : Int) = ds[n]? := by
  unfold L2.atI L2.ixN
  rw [if_pos (by omega), if_pos (by omega)]
  simp
@[simp] theorem q_b1 : b1 f [x] S = f x S := rfl
@[simp] theorem q_b2 : b2 f2 [x, y] S = f2 x y S := rfl
@[simp] theorem f_intI : fInt (.int i) S = some (.int i, S) := rfl
@[simp] theorem f_intB : fInt (.bl bl) S = some (.int (if bl = true then 1 else 0), S) := rfl
@[simp] theorem f_abs : fAbs (.int i) S = some (.int (if i < 0 then -i else i), S) := rfl
@[simp] theorem f_max : fMax2 (.int i) (.int j) S = some (.int (if j > i then j else i), S) := rfl
@[simp] theorem f_min : fMin2 (.int i) (.int j) S = some (.int (if j < i then j else i), S) := rfl
@[simp] theorem f_lenT : fLen (.tup ds) S = some (.int ds.length, S) := rfl
@[simp] theorem f_lenF : fLen (.fls ds) S = some (.int ds.length, S) := rfl
theorem f_lenR (h : S[r]? = some (.lst ds)) : fLen (.ref r) S = some (.int ds.length, S) := by simp only [fLen, h]
@[simp] theorem f_list : fList x S = (itemsD S x).map fun ds => (.ref S.length, S ++ [.lst ds]) := rfl
@[simp] theorem f_tuple : fTuple x S = (itemsD S x).map fun ds => (.tup ds, S) := rfl
@[simp] theorem q_gsb : gSb a b x env S = (a env S).bind fun o S1 => (b env S1).bind fun i S2 => ofS (setD o i x S2) env := rfl
theorem setR (h : S[r]? = some (.lst ds)) : setD (.ref r) (.int i) d S = (L2.ixN ds.length i).map fun j => S.set r (.lst (ds.set j d)) := by simp only [setD, h]
@[simp] theorem ofB_bl : ofB (truD (.bl bl) S) S = .ok bl S := rfl
@[simp] theorem q_sl {lo hi : DP} : dSl a lo hi env S = (a env S).bind fun x S1 => (lo env S1).bind fun l S2 => (hi env S2).bind fun h S3 => ofO (oSl x l h S3) := rfl
@[simp] theorem q_pno : pNo env S = .ok none S := rfl
@[simp] theorem q_pat : pAt a env S = (a env S).bind fun x S1 => match x with
  | .int i => .ok (some i) S1
  | _ => .bad := by
  unfold pAt
  cases a env S with
  | ok x S1 => cases x <;> rfl
  | er x S1 => rfl
  | bad => rfl
@[simp] theorem q_lrg {r : DA} : dLRg r env S = (r env S).bind fun xs S1 => match rgOf xs with
  | some (a, b) => if rgB a b = true then .ok (.ref S1.length) (S1 ++ [.lst (rgD a b)]) else .bad
  | none => .bad := rfl
@[simp] theorem q_meth {ck : D → Store → Bool} {m : Mf} {o : DE} {r : DA} : dMeth ck m o r env S = (o env S).bind fun x S1 => if ck x S1 = true then (r env S1).bind fun xs S2 => ofO (m x xs S2) else .bad := rfl
theorem isL_r (h : S[r]? = some (.lst ds)) : isL (.ref r) S = true := by simp only [isL, h]
theorem m_append (h : S[r]? = some (.lst ds)) (hl : ds.length < sl) : mAppend (.ref r) [x] S = some (.non, S.set r (.lst (ds ++ [x]))) := by
  simp only [mAppend, onL, h, if_pos hl]
@[simp] theorem q_fld {tb : List (Nat × Nat)} : dFld tb a env S = (a env S).bind fun x S1 => ofO ((getF tb x S1).map fun d => (d, S1)) := rfl
@[simp] theorem q_rng1 {r : DA} : iRng1 r env S = (r env S).bind fun xs S1 => match xs with
  | [.int j] => if -(2 ^ 62) ≤ j ∧ j < 2 ^ 62 then .ok (jR 0 j.toNat) S1 else .bad
  | _ => .bad := rfl
@[simp] theorem q_gcons {g : DG} {gs : DGs} : gCons g gs ds env S = match ds with
  | d :: r => (g d env S).bind fun e S1 => gs r e S1
  | [] => .bad := by
  unfold gCons
  cases ds <;> rfl
@[simp] theorem q_gnil : gNil ds env S = match ds with
  | [] => .ok env S
  | _ => .bad := by
  unfold gNil
  cases ds <;> rfl
end
theorem mulOk_of {i j : Int} {m n : Nat} (h1 : i.natAbs < 2 ^ m) (h2 : j.natAbs < 2 ^ n) (h : m + n < 1000000) : mulOk i j = true := by
  unfold mulOk
  have a1 : i.natAbs.log2 ≤ m := by
    by_cases z : i.natAbs = 0
    · rw [z]; simp
    · exact Nat.le_of_lt ((Nat.log2_lt z).mpr h1)
  have a2 : j.natAbs.log2 ≤ n := by
    by_cases z : j.natAbs = 0
    · rw [z]; simp
    · exact Nat.le_of_lt ((Nat.log2_lt z).mpr h2)
  exact decide_eq_true (by omega)
theorem divOk_of {i j : Int} (h0 : 0 < j) {n : Nat} (h : j.natAbs < 2 ^ n) (hn : n < 9000) : divOk i j = true := by
  unfold divOk
  have a2 : j.natAbs.log2 ≤ n := by
    by_cases z : j.natAbs = 0
    · rw [z]; simp
    · exact Nat.le_of_lt ((Nat.log2_lt z).mpr h)
  rw [decide_eq_true h0, decide_eq_true (show j.natAbs.log2 < 9000 by omega)]; rfl
end Z

namespace Z
open PySem PySem.Spec
def kvs : List Nat → Nat → List (L2.Key × D)
  | [], _ => []
  | v :: r, o => (.inl (v : Int), .int (o : Int)) :: kvs r (o + 1)
end Z

namespace Z
open PySem PySem.Spec PyProof.Rows L2 He
section
variable {α β : Type}
def insBy (k : α → List Int) (x : α) : List α → List α
  | [] => [x]
  | y :: m => if HT.lexLt (k y) (k x) = true then y :: insBy k x m else x :: y :: m
def srtBy (k : α → List Int) : List α → List α
  | [] => []
  | x :: l => insBy k x (srtBy k l)
abbrev ltBy (k : α → List Int) : α → α → Bool := fun v u => HT.lexLt (k v) (k u)
theorem insBy_perm (k : α → List Int) (x : α) : ∀ m : List α, (insBy k x m).Perm (x :: m)
  | [] => .refl _
  | y :: m => by
    unfold insBy
    split
    · exact ((insBy_perm k x m).cons y).trans (.swap _ _ _)
    · exact .refl _
theorem srtBy_perm (k : α → List Int) : ∀ m : List α, (srtBy k m).Perm m
  | [] => .refl _
  | x :: m => (insBy_perm k x _).trans ((srtBy_perm k m).cons x)
theorem insBy_srtd (k : α → List Int) (x : α) : ∀ m : List α, SrtO.Srtd (ltBy k) m → SrtO.Srtd (ltBy k) (insBy k x m)
  | [], _ => List.pairwise_singleton _ _
  | y :: m, h => by
    unfold insBy
    have hh := List.pairwise_cons.mp h
    split
    · rename_i hl
      refine List.pairwise_cons.mpr ⟨fun z hz => ?_, insBy_srtd k x m hh.2⟩
      rcases List.mem_cons.mp ((insBy_perm k x m).mem_iff.mp hz) with e | e
      · rw [e]; exact (NtL.swo_lexL k).asym _ _ hl
      · exact hh.1 z e
    · rename_i hl
      have hl' : ltBy k y x = false := by
        cases q : HT.lexLt (k y) (k x) with
        | true => exact absurd q hl
        | false => exact q
      refine List.pairwise_cons.mpr ⟨fun z hz => ?_, h⟩
      rcases List.mem_cons.mp hz with e | e
      · rw [e]; exact hl'
      · exact (NtL.swo_lexL k).tr x y z hl' (hh.1 z e)
theorem srtBy_srtd (k : α → List Int) : ∀ m : List α, SrtO.Srtd (ltBy k) (srtBy k m)
  | [] => .nil
  | x :: m => insBy_srtd k x _ (srtBy_srtd k m)
theorem insBy_stb (k : α → List Int) (x : α) : ∀ m : List α, SrtO.Stb (ltBy k) (insBy k x m) (x :: m)
  | [] => SrtO.Stb.refl _
  | y :: m => by
    unfold insBy
    split
    · rename_i hl
      have ih := insBy_stb k x m
      refine ⟨((insBy_perm k x m).cons y).trans (.swap _ _ _), fun z => ?_⟩
      have ic := ih.cls z
      by_cases hx : SrtO.eqv (ltBy k) z x = true
      · have hy : ¬ SrtO.eqv (ltBy k) z y = true := fun q => by
          obtain ⟨q1, q2⟩ := SrtO.eqv_iff.mp q
          obtain ⟨p1, p2⟩ := SrtO.eqv_iff.mp hx
          have := (NtL.swo_lexL k).tr x z y p1 q2
          have hl : HT.lexLt (k y) (k x) = true := hl
          rw [show HT.lexLt (k y) (k x) = false from this] at hl
          cases hl
        rw [List.filter_cons_of_neg hy, ic, List.filter_cons_of_pos hx, List.filter_cons_of_pos hx, List.filter_cons_of_neg hy]
      · by_cases hy : SrtO.eqv (ltBy k) z y = true
        · rw [List.filter_cons_of_pos hy, ic, List.filter_cons_of_neg hx, List.filter_cons_of_neg hx, List.filter_cons_of_pos hy]
        · rw [List.filter_cons_of_neg hy, ic, List.filter_cons_of_neg hx, List.filter_cons_of_neg hx, List.filter_cons_of_neg hy]
    · exact SrtO.Stb.refl _
theorem srtBy_stb (k : α → List Int) : ∀ m : List α, SrtO.Stb (ltBy k) (srtBy k m) m
  | [] => SrtO.Stb.refl _
  | x :: m => by
    have ih := srtBy_stb k m
    refine (insBy_stb k x _).trans ⟨ih.perm.cons x, fun z => ?_⟩
    by_cases hx : SrtO.eqv (ltBy k) z x = true
    · rw [List.filter_cons_of_pos hx, List.filter_cons_of_pos hx, ih.cls z]
    · rw [List.filter_cons_of_neg hx, List.filter_cons_of_neg hx, ih.cls z]
theorem srtBy_is {k : α → List Int} {l m : List α} (h1 : SrtO.Srtd (ltBy k) l) (h2 : SrtO.Stb (ltBy k) l m) : l = srtBy k m := by
  have e := srtBy_stb k m
  refine SrtO.stb_uniq (NtL.swo_lexL k) h1 (srtBy_srtd k m) ⟨h2.perm.trans e.perm.symm, fun z => (h2.cls z).trans (e.cls z).symm⟩
theorem insBy_rel {R : α → β → Prop} {ka : α → List Int} {kb : β → List Int} (hR : ∀ a b, R a b → ka a = kb b) {x : α} {y : β} (hx : R x y) : ∀ {l : List α} {m : List β}, Paired R l m → Paired R (insBy ka x l) (insBy kb y m)
  | _, _, .nil => .cons hx .nil
  | _, _, .cons (a := a) (b := b) h t => by
    unfold insBy
    rw [hR a b h, hR x y hx]
    split
    · exact .cons h (insBy_rel hR hx t)
    · exact .cons hx (.cons h t)
theorem srtBy_rel {R : α → β → Prop} {ka : α → List Int} {kb : β → List Int} (hR : ∀ a b, R a b → ka a = kb b) : ∀ {l : List α} {m : List β}, Paired R l m → Paired R (srtBy ka l) (srtBy kb m)
  | _, _, .nil => .nil
  | _, _, .cons h t => insBy_rel hR h (srtBy_rel hR t)
theorem srtBy_len (k : α → List Int) (l : List α) : (srtBy k l).length = l.length := (srtBy_perm k l).length_eq
end
def TInt (h : Heap) (v : Value) (ns : List Int) : Prop := ∃ a o us n, v = .ref a ∧ h.get? a = some o ∧ o.cls = .type "tuple" ∧ o.data = .seq (List.toArray us) n ∧ IntsAre us ns
theorem TInt.keeps {h h' : Heap} {v : Value} {ns : List Int} (p : TInt h v ns) (k : ∀ b o, h.get? b = some o → o.cls = .type "tuple" → h'.get? b = some o) : TInt h' v ns := by
  obtain ⟨a, o, us, n, e, ho, hc, hd, hi⟩ := p
  exact ⟨a, o, us, n, e, k _ _ ho hc, hc, hd, hi⟩
section
variable {prog : Program} {w : World} {A : Around} {E : Value → Shared → Prop} {s : Shared}
open SrtO Srt
theorem kat_ints {fin : Bool} {Q : Bool → Shared → Prop} : ∀ {us ws : List Value} {ns ms : List Int} (i : Nat), IntsAre us ns → IntsAre ws ms → fin = decide (ns.length < ms.length) → Q (HT.lexLt ns ms) s → PySem.W.KatLex prog w A true fin Q (us.zip ws) i s
  | _, _, _, _, i, .nil, .nil, hf, h => by
    refine PySem.W.kat_nil ?_
    rw [hf]; exact h
  | _, _, _, _, i, .nil, .cons _ _ _, hf, h => by
    refine PySem.W.kat_nil ?_
    have e : fin = true := by rw [hf]; simp
    rw [e]; exact h
  | _, _, _, _, i, .cons _ _ _, .nil, hf, h => by
    refine PySem.W.kat_nil ?_
    have e : fin = false := by rw [hf]; simp
    rw [e]; exact h
  | _, _, x :: ns, y :: ms, i, .cons _ t h1, .cons _ u h2, hf, h => by
    rw [List.zip_cons_cons]
    refine PySem.W.kat_cons (SeqAt.EqAt.int_int x t y u prog w _ _ ?_)
    have hl := HT.lexLt_cons x y ns ms
    refine PySem.W.kat_go (fun e1 => ?_) (fun e1 => ?_)
    · have ex : x = y := by simpa using e1
      rw [if_pos ex] at hl
      rw [hl] at h
      refine PySem.W.kat_yes (kat_ints (i + 1) h1 h2 ?_ h)
      rw [hf]
      exact decide_eq_decide.mpr (by simp only [List.length_cons]; omega)
    · have ex : ¬ x = y := by simpa using e1
      rw [if_neg ex] at hl
      rw [hl] at h
      refine PySem.W.kat_no ?_
      cases i with
      | zero => exact oneLt_int h
      | succ i => exact PySem.W.kat_one _ _ (PyProof.Rows.lt_int h)
theorem ti_cmp {vs : List Value} {k : Value → List Int} (hp : ∀ v ∈ vs, TInt s.heap v (k v)) : Cmp prog w A s (tuples' true) (fun p => p.1 ∈ vs) (lt2 fun v u => HT.lexLt (k v) (k u)) := by
  intro p q hm hm'
  obtain ⟨a, o, us, n, e, ho, hc, hd, hi⟩ := hp _ hm
  obtain ⟨a', o', us', n', e', ho', hc', hd', hi'⟩ := hp _ hm'
  show wpAny (model prog w) A (keyLt' (tuples' true) p.1 q.1) (fun r s' => s' = s ∧ r = HT.lexLt (k p.1) (k q.1)) (fun _ _ => False) s
  generalize k p.1 = ns at hi ⊢
  generalize k q.1 = ms at hi' ⊢
  rw [e, e']
  refine PySem.W.kat_lt ho hd ho' hd' ?_
  exact kat_ints 0 hi hi' (by rw [List.size_toArray, List.size_toArray, hi.length, hi'.length]) ⟨rfl, rfl⟩
theorem ti_firsts {h : Heap} {k : Value → List Int} : ∀ {vs : List Value}, (∀ v ∈ vs, TInt h v (k v) ∧ k v ≠ []) → ∃ fs : List Value, PySem.W.KatTups h vs fs ∧ fs.length = vs.length ∧ ∀ f ∈ fs, ∃ x t, f = Value.int x t
  | [], _ => ⟨[], PySem.W.KatTups.nil, rfl, fun _ hm => by simp at hm⟩
  | v :: vs, hp => by
    obtain ⟨fs, h1, h2, h3⟩ := ti_firsts (vs := vs) fun v' hm => hp v' (List.mem_cons_of_mem _ hm)
    obtain ⟨⟨a, o, us, n, e, ho, hc, hd, hi⟩, ne⟩ := hp v (List.mem_cons_self ..)
    generalize k v = ns at hi ne
    subst e
    cases hi with
    | nil => exact absurd rfl ne
    | cons x t hi =>
      refine ⟨.int x t :: fs, PySem.W.KatTups.cons ho hc hd rfl h1, by rw [List.length_cons, List.length_cons, h2], fun f hm => ?_⟩
      rcases List.mem_cons.mp hm with rfl | hm
      · exact ⟨x, t, rfl⟩
      · exact h3 f hm
theorem ti_sortable {a : Addr} {vs : List Value} {k : Value → List Int} (h0 : 0 < vs.length) (hp : ∀ v ∈ vs, TInt s.heap v (k v) ∧ k v ≠ []) (ha : ∀ o, s.heap.get? a = some o → o.cls ≠ .type "tuple") : SortableO prog w A s a vs fun v u => HT.lexLt (k v) (k u) := by
  intro h' keep
  have hp' : ∀ v ∈ vs, TInt h' v (k v) ∧ k v ≠ [] := fun v hm => ⟨(hp v hm).1.keeps fun b o e c => keep b o (fun z => by subst z; exact ha o e c) e, (hp v hm).2⟩
  obtain ⟨fs, h1, h2, h3⟩ := ti_firsts hp'
  refine ⟨tuples' true, fun Q E hq => ?_, ti_cmp fun v hm => (hp' v hm).1⟩
  refine PySem.W.kat_kind (T := .type "int") h1 (by omega) (fun f hm => ?_) (by rfl) ?_
  · obtain ⟨x, t, rfl⟩ := h3 f hm
    exact PySem.W.Looks.now
  · have e : (Value.type "int" != Value.type "tuple") = true := by first | decide +kernel | rfl | decide
    rw [e]
    exact hq
end
def rSortedL (K : PySem.W.Frag) : List V → Hp → VK → Prop := fun vs H Q => ∃ (a : Addr) (ps : List (V × List Int)), vs = [V.ref a] ∧ SqL K H a (ps.map (·.1)) ∧ (∀ p ∈ ps, ∃ t, p.1 = V.ref t ∧ SqT K H t (p.2.map V.int)) ∧ (2 ≤ ps.length → ∀ p ∈ ps, p.2 ≠ []) ∧
  ∀ p, H p = none → Q (.ref p) (upd H p (.lst ((srtBy (·.2) ps).map (·.1))))
theorem ints_inj : ∀ {us : List Value} {ns ms : List Int}, IntsAre us ns → IntsAre us ms → ns = ms
  | _, _, _, .nil, .nil => rfl
  | _, _, _, .cons _ _ h, .cons _ _ h' => by rw [ints_inj h h']
theorem TInt.inj {h : Heap} {v : Value} {ns ms : List Int} (p : TInt h v ns) (q : TInt h v ms) : ns = ms := by
  obtain ⟨a, o, us, n, e, ho, hc, hd, hi⟩ := p
  obtain ⟨a', o', us', n', e', ho', hc', hd', hi'⟩ := q
  rw [e] at e'; cases e'
  rw [ho] at ho'; cases ho'
  rw [hd] at hd'
  injection hd' with d1 _
  have : us = us' := by simpa using congrArg Array.toList d1
  subst this
  exact ints_inj hi hi'
open Classical in
noncomputable def kTInt (h : Heap) (v : Value) : List Int := if q : ∃ ns, TInt h v ns then q.choose else []
theorem kTInt_eq {h : Heap} {v : Value} {ns : List Int} (p : TInt h v ns) : kTInt h v = ns := by
  unfold kTInt
  rw [dif_pos ⟨ns, p⟩]
  exact TInt.inj (Exists.choose_spec (⟨ns, p⟩ : ∃ ns, TInt h v ns)) p
theorem ps_vals {ps : List (V × List Int)} {its : List Value} (r : Vals (ps.map (·.1)) its) {G : V × List Int → Value → Prop} (h : ∀ p ∈ ps, ∀ v, RelV p.1 v → G p v) : Paired G ps its := by
  induction ps generalizing its with
  | nil => rw [List.map_nil] at r; cases r; exact .nil
  | cons p ps ih =>
    rw [List.map_cons] at r
    cases r with
    | cons r t => exact .cons (h p List.mem_cons_self _ r) (ih t fun q hq => h q (List.mem_cons_of_mem _ hq))
theorem paired_vals {ps : List (V × List Int)} {its : List Value} {G : V × List Int → Value → Prop} (hG : ∀ p v, G p v → RelV p.1 v) (r : Paired G ps its) : Vals (ps.map (·.1)) its := by
  induction r with
  | nil => exact .nil
  | cons h t ih => exact .cons (hG _ _ h) ih
section
variable {X : Cx}
theorem cr_sortedL : CallR X (.builtin "sorted") (rSortedL X.K) := by
  intro pins s σ H vs us Q I r h
  obtain ⟨a, ps, rfl, hs, hx, hne, q⟩ := h
  obtain ⟨its, rv, hl, hz⟩ := I.list hs
  obtain ⟨u, rfl, ru⟩ := vals1 r
  obtain rfl : u = Value.ref a := ru
  have hp : Paired (fun (p : V × List Int) (v : Value) => RelV p.1 v ∧ TInt s.heap v p.2) ps its := ps_vals rv fun p hp v hv => by
    obtain ⟨t, e, hq⟩ := hx p hp
    rw [e] at hv
    obtain rfl : v = Value.ref t := hv
    refine ⟨by rw [e]; rfl, ?_⟩
    obtain ⟨us2, r2, ⟨o, ho, hc, n, hd⟩, _⟩ := I.tuple hq
    exact ⟨t, o, us2, n, rfl, ho, hc, hd, r2.ints⟩
  have hlen : its.length = ps.length := (Paired.length hp).symm
  have hmem : ∀ v ∈ its, ∃ p ∈ ps, TInt s.heap v p.2 := by
    clear hs rv hl hz q hne hlen hx
    induction hp with
    | nil => intro v hv; cases hv
    | cons h t ih =>
      intro v hv
      rcases List.mem_cons.mp hv with e | e
      · subst e; exact ⟨_, List.mem_cons_self, h.2⟩
      · obtain ⟨p, hp, z⟩ := ih v e; exact ⟨p, List.mem_cons_of_mem _ hp, z⟩
  refine SrtO.sorted_ord (NtL.swo_lexL (kTInt s.heap)) hl.isList (by rw [← rv.length]; exact hz) (fun h2 h₁ a' ha kk => ?_) fun out h1 h2 => ?_
  · refine ti_sortable (s := { s with heap := h₁ }) (by omega) (fun v hv => ?_) fun o e => ?_
    · obtain ⟨p, hp, z⟩ := hmem v hv
      rw [kTInt_eq z]
      exact ⟨z.keeps fun b o e _ => (kk b o e).2, hne (by omega) p hp⟩
    · have e' : some o = some (seqObj "list" its.toArray 0) := e.symm.trans ha
      cases e'
      intro c
      exact absurd (Value.type.inj c) (by decide)
  · have eo : out = srtBy (kTInt s.heap) its := srtBy_is h1 h2
    have hr := srtBy_rel (ka := (·.2)) (kb := kTInt s.heap) (fun p v h => (kTInt_eq h.2).symm) hp
    rw [← eo] at hr
    obtain ⟨ep, he'⟩ := PyProof.Rows.sortedAll_at s.heap its out.toArray
    have hlen2 : ((srtBy (·.2) ps).map (·.1)).length ≤ sizeLine := by
      rw [List.length_map, srtBy_len]
      rw [List.length_map] at hz
      exact hz
    exact ⟨.ref _, upd H (s.heap.objs.size + 1) (.lst ((srtBy (·.2) ps).map (·.1))), I.laid (t' := s.toks) (fun _ _ => PyProof.Rows.sortedAll_old) (Nat.le_succ _) ⟨hlen2, out, ep, paired_vals (fun p v h => h.1) hr, he'⟩, rfl, q _ (I.hok.fresh (Nat.le_succ _))⟩
end
def intsTup : D → Option (List Int)
  | .tup ds => intsOf ds
  | _ => none
def kTup (d : D) : List Int := (intsTup d).getD []
def okSrt (ds : List D) : Bool := ds.all fun d => match intsTup d with
  | some ns => decide (ds.length < 2) || !ns.isEmpty
  | none => false
def fSortL : D → Store → Option (D × Store) := fun d S => match itemsL S d with
  | some ds => if okSrt ds = true then some (.ref S.length, S ++ [.lst (srtBy kTup ds)]) else none
  | none => none
theorem srt_ps {G : Glo} {φ : List Addr} {H : Hp} : ∀ {ds : List D} {vs : List V}, VRels G φ H ds vs → (∀ d ∈ ds, ∃ ns, intsTup d = some ns) →
    ∃ ps : List (V × List Int), ps.map (·.1) = vs ∧ Paired (fun (d : D) (p : V × List Int) => d ∈ ds ∧ VRel G φ H d p.1 ∧ kTup d = p.2 ∧ ∃ t, p.1 = V.ref t ∧ SqT G.K H t (p.2.map V.int)) ds ps
  | [], vs, r, _ => by
    simp only [VRels] at r
    exact ⟨[], by rw [r]; rfl, .nil⟩
  | d :: ds, vs, r, h => by
    simp only [VRels] at r
    obtain ⟨v, us, rfl, rv, rs⟩ := r
    obtain ⟨ps, e, pp⟩ := srt_ps rs fun d hd => h d (List.mem_cons_of_mem _ hd)
    obtain ⟨ns, hn⟩ := h d List.mem_cons_self
    refine ⟨(v, ns) :: ps, by rw [List.map_cons, e], .cons ⟨List.mem_cons_self, rv, by unfold kTup; rw [hn]; rfl, ?_⟩ (L2.Paired.mapP pp fun a b z => ⟨List.mem_cons_of_mem _ z.1, z.2⟩)⟩
    cases d with
    | tup es =>
      simp only [VRel] at rv
      obtain ⟨a, ws, rfl, sq, rr⟩ := rv
      rw [intsOf_eq hn] at rr
      rw [rel_ints rr] at sq
      exact ⟨a, rfl, sq⟩
    | _ => cases hn
theorem paired_rels {G : Glo} {φ : List Addr} {H : Hp} {F : D → V × List Int → Prop} (hF : ∀ d p, F d p → VRel G φ H d p.1) : ∀ {ds : List D} {ps : List (V × List Int)}, Paired F ds ps → VRels G φ H ds (ps.map (·.1))
  | _, _, .nil => VRels.nil
  | _, _, .cons h t => VRels.cons (hF _ _ h) (paired_rels hF t)
theorem paired_mem2 {α β : Type} {F : α → β → Prop} : ∀ {l : List α} {m : List β}, Paired F l m → ∀ b ∈ m, ∃ a ∈ l, F a b
  | _, _, .nil, b, h => by cases h
  | _, _, .cons r t, b, h => by
    rcases List.mem_cons.mp h with e | e
    · subst e; exact ⟨_, List.mem_cons_self, r⟩
    · obtain ⟨a, ha, z⟩ := paired_mem2 t b e; exact ⟨a, List.mem_cons_of_mem _ ha, z⟩
theorem cx_sortL {C : Cp} : CallRx C (.builtin "sorted") (b1 fSortL) := CallRx.imp (fun X => rSortedL X.K) (fun _ _ hx => cr_sortedL) fun X W hx φ S H ds vs Q R r P => by
  obtain ⟨d, v, rfl, rv, P⟩ := b1_some P r
  unfold fSortL at P
  cases e : itemsL S d with
  | none => rw [e] at P; exact P.elim
  | some es =>
    rw [e] at P
    dsimp only at P
    split at P
    · rename_i ok
      unfold okSrt at ok
      have ok := List.all_eq_true.mp ok
      obtain ⟨a, us, rfl, sq, rs⟩ := items_lst R rv e
      obtain ⟨ps, ep, pp⟩ := srt_ps rs fun d hd => by
        have := ok d hd
        cases q : intsTup d with
        | none => rw [q] at this; cases this
        | some ns => exact ⟨ns, rfl⟩
      have hl : es.length = ps.length := Paired.length pp
      refine ⟨a, ps, rfl, by rw [hx.K, ep]; exact sq, fun p hp => ?_, fun h2 p hp => ?_, fun p hp => ?_⟩
      · obtain ⟨d, hd, z1, z2, z3, z4⟩ := paired_mem2 pp p hp
        rw [hx.K]
        exact z4
      · obtain ⟨d, hd, z1, z2, z3, z4⟩ := paired_mem2 pp p hp
        have := ok d hd
        cases q : intsTup d with
        | none => rw [q] at this; cases this
        | some ns =>
          rw [q] at this
          have e1 : decide (es.length < 2) = false := decide_eq_false (by omega)
          dsimp only at this
          rw [e1, Bool.false_or] at this
          intro en
          unfold kTup at z3
          rw [q] at z3
          have z3 : ns = p.2 := z3
          rw [z3, en] at this
          cases this
      · have hr := srtBy_rel (ka := kTup) (kb := (·.2)) (fun d p z => z.2.2.1) pp
        exact PstV.lst P R (paired_rels (fun d p z => z.2.1) hr) hp
    · exact P.elim
end Z

namespace GeX
open PySem PySem.Spec PyProof.Rows L2
section
variable {prog : Program} {w : World} {A : Around} {E : Value → Shared → Prop} {s : Shared}
end

structure GenS2 (env : Env) (scope : Scope) (xa xb : Str) : Prop where
  kind : scope.kind = .function
  co : scope.isCoroutine = false
  cell : ∀ y ∈ scope.names, y.2 ≠ .cell
  dot : scope.names.lookup (".0" : Str) = some NameKind.local
  la : scope.names.lookup xa = some .local
  lb : scope.names.lookup xb = some .local
  free : ∀ y ∈ scope.names, y.2 = .free → ∃ c, env.cells.lookup y.1 = some c
def nz (ns : List Int) (i : Nat) : Bool := match ns[i]? with
  | some n => n != 0
  | none => false
variable {X : Cx} {pins : List (Addr × Obj)} {σ : L2.St} {H : Hp} {s : Shared}
def firstP (ns : List Int) : Option Nat := ((List.range ns.length).filter (nz ns)).head?
end GeX
namespace Z
open PySem PySem.Spec PyProof.Rows L2
end Z

namespace Z
open PySem PySem.Spec PyProof.Rows L2 He
section
variable {C : Cp} {e : Expr} {da : DE}
end
section
variable {cs : List Ck} {fn : List Df} {cl : List Str} {tf : Tf} {pr : Program} {G : Glo}
variable {i j k n : Nat} {d : Df} {y : Str} {N ps : List Str} {b : DS}
end
def Scr (S : Store) (x : D) (ns : List Int) : Prop := x = .fls (ns.map D.int) ∨ ∃ r, x = .ref r ∧ S[r]? = some (.lst (ns.map D.int))
section
variable {cs : List Ck} {fn : List Df} {tl : List (PySem.W.Frag → Addr)} {h : Heap} {K : PySem.W.Frag}
theorem SaysZ.ck (c : SaysZ cs fn tl h K) (i : Nat) {k : Ck} (e : cs[i]? = some k) : k K = true := by
  have c1 := (ba (show ((cs.all fun c => c K) && fn.all fun d => d.ok K) = true from congrArg (fun z : AlZ => z.1) c.all)).1
  exact List.all_eq_true.mp c1 k (List.mem_of_getElem? e)
end
end Z

namespace SeX
open PySem PySem.Spec PyProof.Rows L2
abbrev newSet (w : World) : Obj := { cls := .type "set", dict := none, data := .set #[] 0 (.fresh 0 0 (!w.params.followText "set-order")) }
section
variable {P : Program} {w : World} {A : Around} {E : Value → Shared → Prop} {s : Shared}
theorem set_of_list {l : Addr} {items : Array Value} (ns : List Int) {Q : Value → Shared → Prop} (hh : A.handled = none) (hl : s.heap.IsList l items) (hit : IntsAre items.toList ns) (hb : ns.length + 1 < scanBound)
    (h : ∀ (h' : Heap) (tk c : Nat), SetR w h' s.heap.objs.size (fun j => decide (j ∈ ns)) c → c ≤ ns.length → (∀ b o, s.heap.get? b = some o → h'.get? b = some o) → Q (.ref s.heap.objs.size) { s with heap := h', toks := tk }) :
    wpAny (model P w) A (call (.type "set") [.ref l]) Q E s := by
  have size : items.size = ns.length := by have q := IntsAre.length hit; rwa [Array.length_toList] at q
  obtain ⟨c, tl, hmro⟩ := F.called_set.mro
  have f1 := F.called_set.made
  have f2 := F.called_set.sub
  refine wpAny_call (codeAny_of_tree ?_)
  show wpAny _ _ (callAny (.type "set") _) _ _ _
  refine wpAny_pure ⟨Code.quiet_builtin _ (by decide +kernel), codeAny_builtin F.entry_type_call ?_⟩
  rw [Around.under_plain (weight_type_call_type "set" [.ref l] []) rfl]
  have f3 := F.called_set.notType
  have f4 := F.called_set.canCreate
  have f5 := F.typeCall_set_1 (.ref l)
  repeat (any_goals (first | assumption | wp_step))
  refine codeAny_mono (code_set_led1 (.ref l) (E := E) (Q₁ := fun obj s₁ => obj = .ref s.heap.objs.size ∧ s₁ = { s with heap := s.heap.push (newSet w) }) ⟨rfl, rfl⟩) fun r s₁ hr => ?_
  match r, hr with
  | .error e, hr => exact hr
  | .ok .next, hr => exact hr.elim
  | .ok .brk, hr => exact hr.elim
  | .ok .cont, hr => exact hr.elim
  | .ok (.ret obj), hr =>
    obtain ⟨rfl, rfl⟩ := hr
    have at_ : (s.heap.push (newSet w)).get? s.heap.objs.size = some (newSet w) := Heap.get?_push_size _ rfl
    have hT : Shared.TypeIs { s with heap := s.heap.push (newSet w) } (.ref s.heap.objs.size) "set" := ⟨_, at_, rfl⟩
    have f6 := F.called_set.init.lookup
    have f7 := F.called_set.init.bind (.ref s.heap.objs.size)
    repeat (any_goals (first | assumption | wp_step))
    refine codeAny_mono (codeAny_call_builtin (R := wants (fun r s₂ => r = .none ∧ ∃ h' tk c, s₂ = { s with heap := h', toks := tk } ∧ SetR w h' s.heap.objs.size (fun j => decide (j ∈ ns)) c ∧ c ≤ ns.length ∧ ∀ b o, s.heap.get? b = some o → h'.get? b = some o) E)
      F.called_set.init.plain F.entry_set_init (check_set_init_1 hT ?_)) fun r₂ s₂ hr₂ => ?_
    · obtain ⟨⟨ocls, odict, odata, oslots⟩, hol, hcl, nl, hdl⟩ := hl
      dsimp only at hcl hdl
      subst hcl hdl
      have hlS : l < s.heap.objs.size := Heap.lt_size hol
      have hol' := Heap.get?_push_of_some (newSet w) hol
      have g1 := F.sub_list_set
      have g2 := F.sub_list_frozenset
      have g3 : (Value.type "list" == Value.type "dict") = false := by decide
      have hl1 : (s.heap.push (newSet w)).IsList l items := ⟨_, hol', rfl, nl, rfl⟩
      unfold Builtin.«set.__init__» noKeywords Builtin.Frozenset.updateFrom
      generalize hPI : pyIter = PI
      wp_walk
      subst hPI
      refine wpAny_pyIter_list hl1 ?_
      refine wpAny_bind (wpAny_runValue ?_)
      have hz1 : (s.heap.push (newSet w)).objs.size = s.heap.objs.size + 1 := Heap.size_push ..
      have hneI : l ≠ (s.heap.push (newSet w)).objs.size := by rw [hz1]; exact Nat.ne_of_lt (Nat.lt_succ_of_lt hlS)
      have hS0 : s.heap.objs.size ≠ (s.heap.push (newSet w)).objs.size := by rw [hz1]; exact Nat.ne_of_lt (Nat.lt_succ_self _)
      have hval : ∀ (i : Nat) (v : Value), items[i]? = some v → ∃ k t, ns[i]? = some k ∧ v = .int k t := fun i v hv => by
        have hi : i < ns.length := by rw [← size]; exact (Array.getElem?_eq_some_iff.mp hv).1
        obtain ⟨t, e⟩ := PyProof.Rows.IntsAre.int_at hit i v (by rw [Array.getElem?_toList]; exact hv)
        exact ⟨ns[i], t, List.getElem?_eq_getElem hi, by rw [e, List.getD_eq_getElem?_getD, List.getElem?_eq_getElem hi]; rfl⟩
      refine set_update_ints ((Walks.list (show A.in1.in1.in1.handled = none by simp [hh]) _ l hneI items).toS) s.heap.objs.size
        (by simp only [List.mem_cons, List.mem_singleton, List.not_mem_nil, or_false, not_or]; exact ⟨hS0, Nat.ne_of_gt hlS⟩) ns size hb hval (items.size - 0) 0 _ (by omega) (Nat.zero_le _)
        ⟨⟨_, Heap.get?_push_size _ rfl, rfl, rfl⟩, hl1.push _⟩ ⟨0, Nat.le_refl 0, setR_new_at (Heap.get?_push_of_some _ at_)⟩ fun s' c' hm hc' hS' => ?_
      obtain ⟨h', g2, d', tk', os'⟩ := s'
      obtain ⟨m1, m2, m3, m4, _⟩ := hm
      dsimp only at m1 m2 m3 m4
      have m2 : g2 = s.gens := m2
      subst m2 m3 m4
      refine wpAny_pure ?_
      show wpAny _ _ (ret Value.none) _ _ _
      rw [size] at hc'
      refine wpAny_pure ⟨rfl, h', tk', c', rfl, hS', hc', fun b o e => ?_⟩
      have hb0 : b < s.heap.objs.size := Heap.lt_size e
      refine m1 b o ?_ (Heap.get?_push_of_some _ (Heap.get?_push_of_some _ e))
      simp only [List.mem_cons, List.mem_singleton, List.not_mem_nil, or_false, not_or]
      exact ⟨Nat.ne_of_lt hb0, by rw [hz1]; exact Nat.ne_of_lt (Nat.lt_succ_of_lt hb0)⟩
    · match r₂, hr₂ with
      | .error e, hr₂ => exact hr₂
      | .ok .next, hr₂ => exact hr₂.elim
      | .ok .brk, hr₂ => exact hr₂.elim
      | .ok .cont, hr₂ => exact hr₂.elim
      | .ok (.ret r), hr₂ =>
        obtain ⟨rfl, h', tk, c', rfl, q1, q2, q3⟩ := hr₂
        repeat (any_goals (first | assumption | wp_step))
        exact h _ _ _ q1 q2 q3
end
end SeX

namespace SeX
open PySem PySem.Spec PyProof.Rows L2
section
variable {X : Cx}
end
end SeX
namespace Z
open PySem PySem.Spec PyProof.Rows L2
def insS (x : Int) : List Int → List Int
  | [] => [x]
  | y :: l => if x ≤ y then x :: y :: l else y :: insS x l
def srt : List Int → List Int
  | [] => []
  | x :: l => insS x (srt l)
def insU (x : Int) : List Int → List Int
  | [] => [x]
  | y :: l => if x < y then x :: y :: l else if x = y then y :: l else y :: insU x l
def srtU : List Int → List Int
  | [] => []
  | x :: l => insU x (srtU l)
theorem insS_perm (x : Int) : ∀ l, (insS x l).Perm (x :: l)
  | [] => List.Perm.refl _
  | y :: l => by
    unfold insS
    split
    · exact List.Perm.refl _
    · exact ((insS_perm x l).cons y).trans (List.Perm.swap x y l)
theorem srt_perm : ∀ l, (srt l).Perm l
  | [] => List.Perm.refl _
  | x :: l => (insS_perm x (srt l)).trans ((srt_perm l).cons x)
theorem insS_up (x : Int) : ∀ {l : List Int}, l.Pairwise (· ≤ ·) → (insS x l).Pairwise (· ≤ ·)
  | [], _ => List.pairwise_singleton _ _
  | y :: l, h => by
    obtain ⟨h1, h2⟩ := List.pairwise_cons.mp h
    unfold insS
    split
    · rename_i hx
      exact List.pairwise_cons.mpr ⟨fun z hz => by
        rcases List.mem_cons.mp hz with e | e
        · rw [e]; exact hx
        · exact Int.le_trans hx (h1 z e), h⟩
    · rename_i hx
      refine List.pairwise_cons.mpr ⟨fun z hz => ?_, insS_up x h2⟩
      rcases List.mem_cons.mp ((insS_perm x l).mem_iff.mp hz) with e | e
      · rw [e]; omega
      · exact h1 z e
theorem srt_up : ∀ l, (srt l).Pairwise (· ≤ ·)
  | [] => List.Pairwise.nil
  | x :: l => insS_up x (srt_up l)
theorem up_uniq : ∀ {l m : List Int}, l.Perm m → l.Pairwise (· ≤ ·) → m.Pairwise (· ≤ ·) → l = m
  | [], m, h, _, _ => h.nil_eq
  | x :: l, [], h, _, _ => absurd h.length_eq (by simp)
  | x :: l, y :: m, h, a, b => by
    obtain ⟨a1, a2⟩ := List.pairwise_cons.mp a
    obtain ⟨b1, b2⟩ := List.pairwise_cons.mp b
    have e : x = y := by
      have hx := h.mem_iff.mp List.mem_cons_self
      have hy := h.mem_iff.mpr (List.mem_cons_self (a := y) (l := m))
      rcases List.mem_cons.mp hx with e | e
      · exact e
      · rcases List.mem_cons.mp hy with e' | e'
        · exact e'.symm
        · have := b1 x e
          have := a1 y e'
          omega
    subst e
    rw [up_uniq h.cons_inv a2 b2]
theorem mem_insU (x z : Int) : ∀ l, z ∈ insU x l ↔ z = x ∨ z ∈ l
  | [] => by unfold insU; simp
  | y :: l => by
    unfold insU
    split
    · simp
    · split
      · rename_i h; subst h; simp
      · rw [List.mem_cons, mem_insU x z l, List.mem_cons]
        constructor
        · rintro (h | h | h) <;> simp [h]
        · rintro (h | h | h) <;> simp [h]
theorem mem_srtU (z : Int) : ∀ l, z ∈ srtU l ↔ z ∈ l
  | [] => by unfold srtU; simp
  | x :: l => by unfold srtU; rw [mem_insU, mem_srtU z l, List.mem_cons]
theorem insU_up (x : Int) : ∀ {l : List Int}, l.Pairwise (· < ·) → (insU x l).Pairwise (· < ·)
  | [], _ => List.pairwise_singleton _ _
  | y :: l, h => by
    obtain ⟨h1, h2⟩ := List.pairwise_cons.mp h
    unfold insU
    split
    · rename_i hx
      exact List.pairwise_cons.mpr ⟨fun z hz => by
        rcases List.mem_cons.mp hz with e | e
        · rw [e]; exact hx
        · exact Int.lt_trans hx (h1 z e), h⟩
    · split
      · exact h
      · rename_i h3 h4
        refine List.pairwise_cons.mpr ⟨fun z hz => ?_, insU_up x h2⟩
        rcases (mem_insU x z l).mp hz with e | e
        · rw [e]; omega
        · exact h1 z e
theorem srtU_up : ∀ l, (srtU l).Pairwise (· < ·)
  | [] => List.Pairwise.nil
  | x :: l => insU_up x (srtU_up l)
theorem strict_uniq : ∀ {l m : List Int}, (∀ k, k ∈ l ↔ k ∈ m) → l.Pairwise (· < ·) → m.Pairwise (· < ·) → l = m
  | [], [], _, _, _ => rfl
  | [], y :: m, h, _, _ => absurd ((h y).mpr List.mem_cons_self) (by simp)
  | x :: l, [], h, _, _ => absurd ((h x).mp List.mem_cons_self) (by simp)
  | x :: l, y :: m, h, a, b => by
    obtain ⟨a1, a2⟩ := List.pairwise_cons.mp a
    obtain ⟨b1, b2⟩ := List.pairwise_cons.mp b
    have e : x = y := by
      rcases List.mem_cons.mp ((h x).mp List.mem_cons_self) with e | e
      · exact e
      · rcases List.mem_cons.mp ((h y).mpr List.mem_cons_self) with e' | e'
        · exact e'.symm
        · have := b1 x e
          have := a1 y e'
          omega
    subst e
    rw [strict_uniq (fun k => ?_) a2 b2]
    constructor
    · intro hk
      rcases List.mem_cons.mp ((h k).mp (List.mem_cons_of_mem _ hk)) with e | e
      · have := a1 k hk; omega
      · exact e
    · intro hk
      rcases List.mem_cons.mp ((h k).mpr (List.mem_cons_of_mem _ hk)) with e | e
      · have := b1 k hk; omega
      · exact e
def fSortI : D → Store → Option (D × Store) := fun d S => ((itemsL S d).bind intsOf).map fun ns => (.ref S.length, S ++ [.lst ((srt ns).map D.int)])
theorem cx_sortI {C : Cp} : CallRx C (.builtin "sorted") (b1 fSortI) := CallRx.imp (fun X => rSortedI X.K) (fun _ _ hx => cr_sortedI) fun X W hx φ S H ds vs Q R r P => by
  obtain ⟨d, v, rfl, rv, P⟩ := b1_some P r
  unfold fSortI at P
  cases e : (itemsL S d).bind intsOf with
  | none => rw [e] at P; exact P.elim
  | some ns =>
    rw [e] at P
    obtain ⟨a, rfl, sq⟩ := ints_lst R rv e
    refine ⟨a, ns, rfl, by rw [hx.K]; exact sq, fun ns' p hp hu hn => ?_⟩
    rw [up_uniq (hp.trans (srt_perm ns).symm) hu (srt_up ns)]
    exact PstV.lst P R (ints_rel _) hn
end Z

namespace Z
open PySem PySem.Spec PyProof.Rows L2 He
abbrev DPs := En → Store → Res (List (Key × D))
def dpNil : DPs := fun _ S => .ok [] S
def dpCons (k v : DE) (r : DPs) : DPs := fun env S => (k env S).cut.bind fun x S1 => (v env S1).cut.bind fun y S2 => match keyD x with
  | some q => (r env S2).bind fun ps S3 => .ok ((q, y) :: ps) S3
  | none => .bad
def dDisp (r : DPs) : DE := fun env S => (r env S).cut.bind fun kvs S1 => if kvs.length ≤ 15 then .ok (.ref S1.length) (S1 ++ [.dK (mergeKD [] kvs)]) else .bad
def asVV (kws : List (Key × V)) : List (V × V) := kws.map fun kv => (kV kv.1, kv.2)
def PPx (C : Cp) (keys : List (Option Expr)) (values : List Expr) (r : DPs) : Prop := ∀ X W pos, Cxt C W X → ∃ trs, PPs X pos keys values trs ∧
  ∀ φ S env σ H Q B, Rel C.G φ S H → ERel C.G φ H env σ → Pst C.G B φ H (fun φ' H' _ ps => ∀ kws, KRel C.G φ' H' ps kws → Q (asVV kws) H') (r env S).cut → tPairs trs σ H Q
section
variable {C : Cp} {pos : Pos}
theorem ppx_nil : PPx C [] [] dpNil := fun X W pos hx => ⟨[], pps_nil, fun φ S env σ H Q B R E P => by
  unfold dpNil at P
  rw [Res.cut_ok] at P
  exact P.now R [] rfl⟩
theorem ppx_cons {k v : Expr} {ks : List (Option Expr)} {vs : List Expr} {dk dv : DE} {r : DPs} (hk : PEx C k dk) (hv : PEx C v dv) (hr : PPx C ks vs r) : PPx C (some k :: ks) (v :: vs) (dpCons dk dv r) := fun X W pos hx => by
  obtain ⟨trs, h1, h2⟩ := hr X W pos hx
  refine ⟨_, pps_cons (hk X W hx) (hv X W hx) h1, fun φ S env σ H Q B R E P => ?_⟩
  unfold dpCons at P
  cases e1 : dk env S with
  | bad => rw [e1] at P; exact P.elim
  | er x S1 => rw [e1] at P; exact P.elim
  | ok x S1 =>
    rw [e1, Res.cut_ok, Res.bind_ok] at P
    refine ⟨φ, S, env, R, E, ?_⟩
    rw [e1]
    intro φ1 H1 n1 R1 w1 r1
    cases e2 : dv env S1 with
    | bad => rw [e2] at P; exact P.elim
    | er x S2 => rw [e2] at P; exact P.elim
    | ok y S2 =>
      rw [e2, Res.cut_ok, Res.bind_ok] at P
      refine ⟨φ1, S1, env, R1, E.nxt n1, ?_⟩
      rw [e2]
      intro φ2 H2 n2 R2 w2 r2
      cases ek : keyD x with
      | none => rw [ek] at P; exact P.elim
      | some q =>
        rw [ek] at P
        dsimp only at P
        have r1 := r1.nxt n2
        have := keyD_rel ek r1
        subst this
        refine h2 φ2 S2 env σ H2 _ B R2 ((E.nxt n1).nxt n2) ?_
        have P := P.nxt (n1.trans n2)
        cases e3 : r env S2 with
        | bad => rw [e3] at P; exact P.elim
        | er x S3 => rw [e3] at P; exact P.elim
        | ok ps S3 =>
          rw [e3, Res.bind_ok, Res.cut_ok] at P
          rw [Res.cut_ok]
          intro φ3 H3 n3 R3 kws hk
          exact P φ3 H3 n3 R3 ((q, w2) :: kws) ⟨w2, kws, rfl, r2.nxt n3, hk⟩
theorem krel_merge {φ : List Addr} {H : Hp} {ps : List (Key × D)} {kws : List (Key × V)} (h : KRel C.G φ H ps kws) : KRel C.G φ H (mergeKD [] ps) (mergeK [] kws) := KRel.merge h (show KRel C.G φ H [] [] from rfl)
theorem pex_disp {keys : List (Option Expr)} {values : List Expr} {r : DPs} (h : PPx C keys values r) (hall : keys.all (·.isSome) = true) (hl : keys.length = values.length) (h0 : keys ≠ []) (h15 : keys.length ≤ 15) : PEx C (.Dict keys values pos) (dDisp r) := fun X W hx => by
  obtain ⟨trs, h1, h2⟩ := h X W pos hx
  refine pe_imp (pe_disp h1 hall hl h0 h15) fun σ H Q ⟨φ, S, env, R, E, P⟩ p hp => ?_
  have nd := R.notmem hp
  have g0 : Grow H (upd H p (.dK [])) := Grow.new hp
  refine h2 φ S env σ (upd H p (.dK [])) _ (fun _ _ _ => True) (R.mute nd g0 (nx_none hp)) (E.up (fun _ _ q => q) g0) ?_
  unfold dDisp at P
  cases e : r env S with
  | bad => rw [e] at P; exact P.elim
  | er x S1 => rw [e] at P; exact P.elim
  | ok kvs S1 =>
    rw [e, Res.cut_ok, Res.bind_ok] at P
    rw [Res.cut_ok]
    intro φ2 H2 n2 R2 kws hk
    split at P
    · rename_i h15
      have hp2 : H2 p = some (.dK []) := n2.frame _ _ upd_same nd trivial
      have nd2 : p ∉ φ2 := n2.notin (show (upd H p (.dK [])) p = some (.dK []) from upd_same) nd
      refine ⟨hp2, kws, rfl, by rw [← KRel.len hk]; exact h15, ?_⟩
      have g2 : Grow H2 (upd H2 p (.dK (mergeK [] kws))) := grow_dk hp2
      have f : ∀ (i : Nat) (a : Addr), φ2[i]? = some a → (φ2 ++ [p])[i]? = some a := fun i a e => by rw [List.getElem?_append_left (List.getElem?_eq_some_iff.mp e).1]; exact e
      have R3 : Rel C.G φ2 S1 (upd H2 p (.dK (mergeK [] kws))) := R2.mute nd2 g2 (nx_some hp2)
      have R4 := R3.adopt (o := .dK (mergeKD [] kvs)) nd2 ⟨_, upd_same, (krel_merge hk).up f g2⟩
      have n3 : Nxt φ φ2 H (upd H2 p (.dK (mergeK [] kws))) := nxt_over ((Nxt.mute hp).trans n2) hp
      obtain ⟨ψ, e3, fr⟩ := n3.ext
      have n4 : Nxt φ (φ2 ++ [p]) H (upd H2 p (.dK (mergeK [] kws))) := ⟨⟨ψ ++ [p], by rw [e3, List.append_assoc], fun q z => by
        rcases List.mem_append.mp z with z | z
        · exact fr q z
        · rw [List.mem_singleton.mp z, hp]; intro _ e; cases e⟩, n3.grow, n3.frame, n3.there⟩
      refine P _ _ n4 R4 (.ref p) ?_
      simp only [VRel]
      exact ⟨p, rfl, by rw [← R3.len]; simp⟩
    · exact P.elim
end
section
variable {C : Cp} {a b e : Expr} {da db de : DE} {pos : Pos}
end
end Z

namespace Z
open PySem PySem.Spec PyProof.Rows L2 He
def lkO (kvs : List (Key × D)) : O := .dT (kvs.map fun p => ([p.1], .non))
theorem lk_keys : ∀ kvs : List (Key × D), ((kvs.map fun p => ([p.1], D.non)).map (·.1)).flatten = kvs.map (·.1)
  | [] => rfl
  | p :: r => by simp only [List.map_cons, List.flatten_cons, lk_keys r]; rfl
def kD : Key → D
  | .inl i => .int i
  | .inr s => .str s
theorem kD_rel {G : Glo} {φ : List Addr} {H : Hp} (k : Key) : VRel G φ H (kD k) (kV k) := by cases k <;> simp only [kD, VRel] <;> rfl
def iLk (n : Nat) : DI := fun env S => match env[n]? with
  | some (some (.ref i)) => match S[i]? with
    | some (.dT l) => .ok (jT ((l.map (·.1)).flatten.map kD)) S
    | _ => .bad
  | _ => .bad
section
variable {C : Cp} {pos : Pos}
theorem it_lk {G : Glo} {φ0 : List Addr} {H0 : Hp} {a : Addr} {od : Obj} {kws : List (Key × V)} {ks : List Key} (h : H0 a = some (.frz od (.dK kws))) (hk : kws.map (·.1) = ks) : ItRel G φ0 H0 (jT (ks.map kD)) (Itk a od kws) := by
  refine ⟨fun i φ S H n R e => ⟨n.grow.frz _ _ _ h, ?_⟩, fun i φ S H d n R e => ⟨⟨n.grow.frz _ _ _ h, ?_⟩, fun x H' y => ?_⟩⟩
  · have e1 : (ks.map kD)[i]? = none := Option.some.inj e
    rw [List.getElem?_eq_none_iff, List.length_map, ← hk, List.length_map] at e1
    exact e1
  · have e1 : (ks.map kD)[i]? = some d := Option.some.inj e
    have := (List.getElem?_eq_some_iff.mp e1).1
    rw [List.length_map, ← hk, List.length_map] at this
    exact this
  · obtain ⟨rfl, k, v, e2, rfl⟩ := y
    have e1 : (ks.map kD)[i]? = some d := Option.some.inj e
    rw [List.getElem?_map, ← hk, List.getElem?_map, e2] at e1
    cases e1
    exact ⟨Nxt.refl _ _, R, kD_rel k⟩
theorem pix_lk (n : Nat) {x : Str} {p : Pos} {tg : Expr} (hN : C.N[n]? = some x) (hv : visB C.sc x = true) (hd : (x == ("__debug__" : Str)) = false := by decide +kernel) (hcd : (x == ("__classdict__" : Str)) = false := by decide +kernel) : PIx C tg (.Name x p) (iLk n) := fun X W h => by
  refine pi_imp (pi_keys (pe_var (X := X) (i := n) (by rw [h.N]; exact hN) (by rw [h.sc]; exact visB_ok hv) hd hcd)) fun σ H R ⟨φ, S, env, Rl, E, P⟩ => ?_
  unfold iLk at P
  split at P
  · rename_i i e
    split at P
    · rename_i l e2
      obtain ⟨v, hv, r⟩ := E.2 n _ e
      simp only [VRel] at r
      obtain ⟨a, rfl, hφ⟩ := r
      obtain ⟨od, kws, e3, e4⟩ := Rl.at_ i a _ hφ e2
      exact ⟨_, hv, a, od, rfl, .inl ⟨kws, e3, P.now Rl _ (it_lk e3 e4)⟩⟩
    · exact P.elim
  · exact P.elim
end
def unlk {α : Type} (i : Nat) (kvs : List (Key × D)) (r : Res α) : Res α := r.cut.bind fun x S2 => match S2[i]? with
  | some (.dT _) => .ok x (S2.set i (.dK kvs))
  | _ => .bad
def dLk (n : Nat) (d : DE) : DE := fun env S => match env[n]? with
  | some (some (.ref i)) => match S[i]? with
    | some (.dK kvs) => unlk i kvs (d env (S.set i (lkO kvs)))
    | _ => .bad
  | _ => .bad
section
variable {C : Cp} {pos : Pos}
theorem Rel.lock {G : Glo} {φ : List Addr} {S : Store} {H : Hp} {i : Nat} {a : Addr} {kvs : List (Key × D)} {kws : List (Key × V)} (R : Rel G φ S H) (e1 : φ[i]? = some a) (e2 : S[i]? = some (.dK kvs)) (e3 : H a = some (.dK kws)) (kr : KRel G φ H kvs kws) (od : Obj) :
    Rel G φ (S.set i (lkO kvs)) (upd H a (.frz od (.dK kws))) ∧ Nxt φ φ H (upd H a (.frz od (.dK kws))) := by
  have hk : ∀ {l : List (Key × D)} {m : List (Key × V)}, KRel G φ H l m → m.map (·.1) = l.map (·.1) := fun {l} => by
    induction l with
    | nil => intro m h; simp only [KRel] at h; subst h; rfl
    | cons p l ih =>
      intro m h
      obtain ⟨k, d⟩ := p
      simp only [KRel] at h
      obtain ⟨v, ks, rfl, _, t⟩ := h
      simp only [List.map_cons, ih t]
  exact R.set e1 e2 ⟨od, kws, upd_same, by rw [lk_keys]; exact hk kr⟩
theorem Rel.unlock {G : Glo} {φ φ2 : List Addr} {S S2 : Store} {H H2 : Hp} {i : Nat} {a : Addr} {kvs : List (Key × D)} {kws : List (Key × V)} {l : List (List Key × D)} {od : Obj} (R : Rel G φ S H) (e1 : φ[i]? = some a) (e2 : S[i]? = some (.dK kvs)) (e3 : H a = some (.dK kws)) (kr : KRel G φ H kvs kws)
    (n2 : Nxt φ φ2 (upd H a (.frz od (.dK kws))) H2) (R2 : Rel G φ2 S2 H2) (e4 : S2[i]? = some (.dT l)) :
    H2 a = some (.frz od (.dK kws)) ∧ Rel G φ2 (S2.set i (.dK kvs)) (upd H2 a (.dK kws)) ∧ Nxt φ φ2 H (upd H2 a (.dK kws)) ∧ GrowW H2 (upd H2 a (.dK kws)) := by
  have h2 : H2 a = some (.frz od (.dK kws)) := n2.grow.frz _ _ _ upd_same
  have ne1 : ∀ {b : Addr}, b ≠ a → upd H2 a (.dK kws) b = H2 b := fun h => upd_ne h
  have gw : GrowW H2 (upd H2 a (.dK kws)) := by
    refine ⟨fun b xs e => ?_, fun b o xs e => ?_, fun b o xs e => ?_, fun b fs e => ?_, fun b c e => .inl ?_⟩ <;>
      (rw [ne1 (fun z => by subst z; rw [h2] at e; cases e)]; exact e)
  have hb : ∀ {b : Addr} {o : HO}, b ≠ a → H b = some o → upd H a (.frz od (.dK kws)) b = some o := fun h e => by rw [upd_ne h]; exact e
  have g : Grow H (upd H2 a (.dK kws)) := by
    refine ⟨fun b xs e => ?_, fun b o u e => ?_, fun b fs e => ?_, fun b c e => ?_⟩
    · have nb : b ≠ a := fun z => by subst z; rw [e3] at e; cases e
      rw [ne1 nb]; exact n2.grow.tup _ _ (hb nb e)
    · have nb : b ≠ a := fun z => by subst z; rw [e3] at e; cases e
      rw [ne1 nb]; exact n2.grow.frz _ _ _ (hb nb e)
    · have nb : b ≠ a := fun z => by subst z; rw [e3] at e; cases e
      rw [ne1 nb]; exact n2.grow.xds _ _ (hb nb e)
    · have nb : b ≠ a := fun z => by subst z; rw [e3] at e; cases e
      rw [ne1 nb]; exact n2.grow.owns _ _ (hb nb e)
  have ha : a ∈ φ := List.mem_of_getElem? e1
  have nx : Nxt φ φ2 H (upd H2 a (.dK kws)) := by
    obtain ⟨ψ, eψ, f⟩ := n2.ext
    refine ⟨⟨ψ, eψ, fun q hq o e nt => ?_⟩, g, fun b o e nb st => ?_, fun b o e nt => ?_⟩
    · by_cases qa : q = a
      · subst qa; exact f q hq _ upd_same trivial
      · exact f q hq o (hb qa e) nt
    · have nba : b ≠ a := fun z => nb (z ▸ ha)
      rw [ne1 nba]; exact n2.frame b o (hb nba e) nb st
    · by_cases ba : b = a
      · subst ba; exact ⟨_, upd_same, trivial⟩
      · rw [ne1 ba]; exact n2.there b o (hb ba e) nt
  have e1' : φ2[i]? = some a := n2.at_ e1
  refine ⟨h2, ⟨by simp [R2.len], R2.nd, fun j b o q1 q2 => ?_, tabs_upd R2.tabs (nx_some h2)⟩, nx, gw⟩
  by_cases hj : j = i
  · subst hj
    rw [e1'] at q1; cases q1
    rw [List.getElem?_set_self (List.getElem?_eq_some_iff.mp e4).1] at q2
    cases q2
    exact ⟨kws, upd_same, kr.nxt nx⟩
  · rw [List.getElem?_set_ne (Ne.symm hj)] at q2
    refine (R2.at_ j b o q1 q2).upW (fun _ _ z => z) gw (ne1 ?_)
    intro z
    subst z
    exact hj ((List.getElem?_inj (List.getElem?_eq_some_iff.mp q1).1 R2.nd).mp (q1.trans e1'.symm))
theorem pex_lock (n : Nat) {e : Expr} {d : DE} (h : PEx C e d) : PEx C e (dLk n d) := fun X W hx => by
  refine pe_imp (pe_lock (h X W hx)) fun σ H Q ⟨φ, S, env, R, E, P⟩ => ?_
  unfold dLk at P
  split at P
  · rename_i i e
    split at P
    · rename_i kvs e2
      obtain ⟨v, hv, r⟩ := E.2 n _ e
      simp only [VRel] at r
      obtain ⟨a, rfl, hφ⟩ := r
      obtain ⟨kws, e3, kr⟩ := R.at_ i a _ hφ e2
      refine ⟨a, .dK kws, e3, trivial, fun od => ?_⟩
      obtain ⟨R1, n1⟩ := R.lock hφ e2 e3 kr od
      refine ⟨φ, S.set i (lkO kvs), env, R1, E.nxt n1, ?_⟩
      unfold unlk at P
      obtain ⟨x, S2, ed, P1⟩ := P.cut_bind
      rw [ed]
      intro φ2 H2 n2 R2 v r
      split at P1
      · rename_i l e4
        obtain ⟨h2, R3, n3, gw⟩ := R.unlock hφ e2 e3 kr n2 R2 e4
        exact ⟨h2, P1 φ2 _ n3 R3 v (r.upW (fun _ _ z => z) gw)⟩
      · exact P1.elim
    · exact P.elim
  · exact P.elim
theorem ERel.upW {G : Glo} {φ : List Addr} {H H' : Hp} {env : En} {σ : St} (g : GrowW H H') (h : ERel G φ H env σ) : ERel G φ H' env σ :=
  ⟨h.1, fun i d e => let ⟨v, q, r⟩ := h.2 i d e; ⟨v, q, r.upW (fun _ _ z => z) g⟩⟩
end
def rUpdP (K : PySem.W.Frag) : V → List V → Hp → VK → Prop := fun x xs H Q => ∃ (d a : Addr) (kvs : List (Key × V)) (ps : List Addr) (more : List (Key × V)), x = .ref d ∧ xs = [.ref a] ∧ H d = some (.dK kvs) ∧ SqL K H a (ps.map V.ref) ∧
  Paired (fun p kv => SqT K H p [kV kv.1, kv.2]) ps more ∧ kvs.length + more.length ≤ sizeLine ∧ Q .non (upd H d (.dK (mergeK kvs more)))
section
variable {X : Cx}
theorem pairs_of2 {pins : List (Addr × Obj)} {σ : St} {H : Hp} {s : Shared} (I : Inv X pins σ H s) : ∀ {ps : List Addr} {kvs : List (Key × V)}, Paired (fun p kv => SqT X.K H p [kV kv.1, kv.2]) ps kvs →
    ∃ (prs : List (Key × Value)) (pvs : List (Value × Value)), KV kvs prs ∧ prs.length = ps.length ∧ pvs.length = ps.length ∧ (∀ (j : Nat) (k v : Value), pvs[j]? = some (k, v) → ∃ b : Addr, ps[j]? = some b ∧ IsTup s.heap b #[k, v]) ∧ ∀ (j : Nat) (k v : Value), pvs[j]? = some (k, v) → ∃ q : Key, prs[j]? = some (q, v) ∧ keyIs q k = true
  | _, _, .nil => ⟨[], [], .nil, rfl, rfl, fun j k v e => by simp at e, fun j k v e => by simp at e⟩
  | _, _, .cons (a := p) (b := kv) h t => by
    obtain ⟨prs, pvs, r, hl, hl2, hp, hq⟩ := pairs_of2 I t
    obtain ⟨its, rv, ht, _⟩ := I.tuple h
    obtain ⟨u, y, ei, ru, ry⟩ := vals2 rv
    subst ei
    refine ⟨(kv.1, y) :: prs, (u, y) :: pvs, .cons ⟨rfl, ry⟩ r, by rw [List.length_cons, List.length_cons, hl], by rw [List.length_cons, List.length_cons, hl2], fun j k v e => ?_, fun j k v e => ?_⟩
    · cases j with
      | zero => cases (Option.some.inj e : (u, y) = (k, v)); exact ⟨p, rfl, ht⟩
      | succ j => obtain ⟨b, e1, e2⟩ := hp j k v (by simpa using e); exact ⟨b, by simpa using e1, e2⟩
    · cases j with
      | zero => cases (Option.some.inj e : (u, y) = (k, v)); exact ⟨kv.1, rfl, kV_is (P := X.prog) (w := X.w) ru⟩
      | succ j => obtain ⟨b, e1, e2⟩ := hq j k v (by simpa using e); exact ⟨b, by simpa using e1, e2⟩
theorem mt_updP (hcalm : X.calm = true) : MtR X "dict.update" (rUpdP X.K) := by
  intro pins s σ H x xs v us Q I rx rxs h
  obtain ⟨d, a, kvs, ps, more, rfl, rfl, hd, hq, hp, hz, q⟩ := h
  obtain rfl : v = Value.ref d := rx
  obtain ⟨u, rfl, ru⟩ := vals1 rxs
  obtain rfl : u = Value.ref a := ru
  obtain ⟨its, rv, pl, hzl⟩ := I.list hq
  have ei := refs_at rv
  subst ei
  obtain ⟨o, n, ho, hc, hdd, hdat⟩ := pl
  obtain ⟨prs, pvs, rel, hl, hl2, hpr, hqr⟩ := pairs_of2 I hp
  obtain ⟨z, hds, vs, relk, dd⟩ := dk_of I.hok hd
  have hdict : ∃ od, s.heap.get? d = some od ∧ od.cls = .type "dict" := by
    obtain ⟨od, _, _, e, hx, _⟩ := dd
    exact ⟨od, e, hx.1⟩
  obtain ⟨od, hod, hcd⟩ := hdict
  have hlen : more.length = prs.length := Paired.length rel
  have hdf : d ∉ a :: (List.range pvs.length).map (fun j => ps.getD j 0) := by
    intro hm
    rcases List.mem_cons.mp hm with e | e
    · subst e
      rw [hod] at ho; cases ho
      rw [hcd] at hc
      exact absurd (Value.type.inj hc) (by decide)
    · obtain ⟨j, hj, e⟩ := List.mem_map.mp e
      have hj := List.mem_range.mp hj
      obtain ⟨b, e1, ⟨o2, e2, c2, _⟩⟩ := hpr j pvs[j].1 pvs[j].2 (List.getElem?_eq_getElem hj)
      have e3 : ps.getD j 0 = b := by rw [List.getD_eq_getElem?_getD, e1]; rfl
      rw [e3] at e
      subst e
      rw [hod] at e2; cases e2
      rw [hcd] at c2
      exact absurd (Value.type.inj c2) (by decide)
  refine call_update_pairs (knd := mixKind X.prog X.w) (acc := vs) (kvs := prs) (PairArg.list a (ps.map Value.ref).toArray (fun j => ps.getD j 0) pvs) (I.ok.hd hcalm) ⟨⟨o, n, ho, hc, hdd, hdat⟩, by simp [hl2], fun j k v e => ?_⟩ hdf ⟨by rw [hl, hl2], fun j k v e => hqr j k v e⟩ dd (by rw [← relk.length, hl2, ← hl, ← hlen]; exact hz) fun h' tk hm' kp => ?_
  · obtain ⟨b, e1, e2⟩ := hpr j k v e
    have e3 : ps.getD j 0 = b := by rw [List.getD_eq_getElem?_getD, e1]; rfl
    dsimp only
    rw [e3]
    obtain ⟨o2, ho2, hc2, n2, hd2⟩ := e2
    exact ⟨by simp [e1], .inl ⟨o2, ho2, hc2, n2, hd2⟩⟩
  · have hzz : (mergeK kvs more).length ≤ sizeLine := Nat.le_trans (length_mergeK more kvs) hz
    have he : ∃ q, h'.get? d = some q := let ⟨q, _, _, hq, _⟩ := hm'; ⟨q, hq⟩
    exact ⟨.non, upd H d (.dK (mergeK kvs more)), I.write (e := d) (t' := tk) (by rw [hd]; trivial) (.inl rfl) (fun b ob hb e => kp b ob hb (by simp) e) he (dk_new hzz hds (rel.merge relk) hm'), rfl, q⟩
def rSortedDI : List V → Hp → VK → Prop := fun xs H Q => ∃ (a : Addr) (kvs : List (Key × V)) (ks : List Int), xs = [.ref a] ∧ H a = some (.dK kvs) ∧ kvs.map (·.1) = ks.map Sum.inl ∧
    ∀ (ys : List Int) (p : Addr), ys.Perm ks → ys.Pairwise (· ≤ ·) → H p = none → Q (.ref p) (upd H p (.lst (ys.map V.int)))
theorem cr_sortedDI (hcalm : X.calm = true) : CallR X (.builtin "sorted") rSortedDI := by
  intro pins s σ H xs us Q I r q
  obtain ⟨a, kvs, ks, ex, hd, hks, q⟩ := q
  subst ex
  obtain ⟨u, eu, rx⟩ := vals1 r
  subst eu
  cases rx
  obtain ⟨z, lo, vs, rel, dd⟩ := dk_of I.hok hd
  obtain ⟨ep, hat⟩ := dd.dictAt
  have hkeys : vs.map (·.1) = ks.map Sum.inl := rel.keys.symm.trans hks
  have hl : vs.length = ks.length := by
    have e := congrArg List.length hkeys
    rw [List.length_map, List.length_map] at e
    exact e
  have h16 : vs.length ≤ sizeLine := by rw [← rel.length]; exact z
  refine Calls.call_function_entry PyProof.Rows.kind_sorted PyProof.Rows.plain_sorted PyProof.Rows.entry_sorted (PyProof.Rows.args_sorted1 _) ?_
  unfold Builtin.«sorted»
  refine wpAny_bind (m := checkCount "sorted" 1 1 _) (wpAny_pure ?_)
  refine wpAny_bind (PySem.W.kdu_collect (A := X.A.in1) (PySem.W.kdl_dict (knd := mixKind X.prog X.w) (kvs := vs) (ep := ep) lo) (I.ok.hd hcalm) hat h16 fun h' tk acc hk hacc => ?_)
  have hal : acc.toList.length = ks.length := by rw [Array.length_toList, hacc.1, hl]
  have hS : IntsAre acc.toList ks := ints_each hal fun j v e => by
    obtain ⟨k, x, e1, e2⟩ := hacc.2 j v (by rw [← Array.getElem?_toList]; exact e)
    have e3 : (vs.map (·.1))[j]? = some k := by rw [List.getElem?_map, e1]; rfl
    rw [hkeys, List.getElem?_map] at e3
    cases e4 : ks[j]? with
    | none => rw [e4] at e3; cases e3
    | some y =>
      rw [e4] at e3
      have e5 : Sum.inl y = k := Option.some.inj e3
      subst e5
      rcases keyIs_shape (show keyIs (Sum.inl y) v = true from e2) with ⟨i, t, ek, ev⟩ | ⟨z, t, ek, ev⟩
      · cases ek
        exact ⟨y, t, rfl, ev⟩
      · cases ek
  have I1 : Inv X pins σ H { s with heap := h', toks := tk } := I.kept hk
  refine wpAny_bind (wpAny_newList ?_ (by rw [hal, ← hl]; exact h16))
  have hoL : (h'.push (seqObj "list" acc.toList.toArray 0)).get? h'.objs.size = some (seqObj "list" acc.toList.toArray 0) := Heap.get?_push_size _ rfl
  show wpAny _ _ _ _ _ { s with heap := h'.push (seqObj "list" acc.toList.toArray 0), toks := tk }
  refine wpAny_bind (wpAny_holding (wpAny_call_entry PyProof.Rows.slot_list_sort ⟨_, hoL, rfl⟩ PyProof.Rows.entry_list_sort
    (SrtO.list_sort_ord (s := { s with heap := h'.push (seqObj "list" acc.toList.toArray 0), toks := tk }) SrtO.swo_int hoL (by rw [hal, ← hl]; exact h16) (fun h2 => SrtO.ints_sortable hS h2) fun out h1 h2 => ⟨_, rfl, ?_⟩) (PyProof.Rows.args_list_sort _)))
  obtain ⟨k1, k2, k3⟩ := SrtO.ints_out hS h1 h2
  obtain ⟨e', he'⟩ := PyProof.Rows.sortedHeap_at (vs := acc.toList) (out := out.toArray) hoL
  have hlen : ((out.map SrtO.iv).map V.int).length ≤ sizeLine := by
    rw [List.length_map, k2.length_eq, ← hl]
    exact h16
  refine wpAny_pure ⟨_, rfl, .ref h'.objs.size, upd H h'.objs.size (.lst ((out.map SrtO.iv).map V.int)), I1.laid (t' := tk) (fun b u e => ?_) (Nat.le_refl _)
    (show ObjOk X.prog X.w _ _ _ (.lst ((out.map SrtO.iv).map V.int)) from ⟨hlen, out, e', vals_of_ints k1, he'⟩), rfl, q _ _ k2 k3 (I1.hok.fresh (Nat.le_refl _))⟩
  have hb : b < h'.objs.size := Heap.lt_size e
  rw [PyProof.Rows.sortedHeap_old (Nat.ne_of_lt hb) (by rw [size_push']; exact Nat.lt_succ_of_lt hb)]
  exact Heap.get?_push_of_some _ e
end
def mUpdate : Mf := fun d ds S => match d, ds with
  | .ref i, [.ref j] => match S[i]?, S[j]? with
    | some (.dK kvs), some (.lst es) => (seqO (es.map pairD)).bind fun more => if kvs.length + more.length ≤ sl then some (.non, S.set i (.dK (mergeKD kvs more))) else none
    | _, _ => none
  | _, _ => none
def isD (d : D) (S : Store) : Bool := match d with
  | .ref i => match S[i]? with
    | some (.dK _) => true
    | _ => false
  | _ => false
def intKeys : List (Key × D) → Option (List Int)
  | [] => some []
  | (.inl i, _) :: r => (intKeys r).map (i :: ·)
  | _ :: _ => none
def fSortD : D → Store → Option (D × Store) := fun d S => match d with
  | .ref i => match S[i]? with
    | some (.dK kvs) => (intKeys kvs).map fun ns => (.ref S.length, S ++ [.lst ((srt ns).map D.int)])
    | _ => none
  | _ => none
section
variable {C : Cp}
theorem isD_ok {G : Glo} {φ : List Addr} {S : Store} {H : Hp} (R : Rel G φ S H) {d : D} {v : V} (r : VRel G φ H d v) (h : isD d S = true) : tyV G.K "dict" v H := by
  unfold isD at h
  split at h
  · rename_i i
    split at h
    · rename_i kvs e
      simp only [VRel] at r
      obtain ⟨a, rfl, hφ⟩ := r
      obtain ⟨kws, e1, _⟩ := R.at_ i a _ hφ e
      exact .inr (.inr (.inl ⟨rfl, .inl ⟨kws, e1⟩⟩))
    · cases h
  · cases h
theorem hckD : ∀ φ S H d v, Rel C.G φ S H → VRel C.G φ H d v → isD d S = true → tyV C.G.K "dict" v H := fun φ S H d v R r h => isD_ok R r h
theorem mtx_update : MtRx C "dict.update" mUpdate := fun X W hx pins s σ H x vs v us Q I r1 r2 ⟨φ, S, d, ds, R, q1, q2, P⟩ => by
  unfold mUpdate at P
  split at P
  · rename_i i j
    split at P
    · rename_i kvs es e1 e2
      cases em : seqO (es.map pairD) with
      | none => rw [em] at P; exact P.elim
      | some more =>
        rw [em, Option.bind_some] at P
        by_cases hl : kvs.length + more.length ≤ sl
        · rw [if_pos hl] at P
          simp only [VRel] at q1
          obtain ⟨a, rfl, hφ⟩ := q1
          obtain ⟨kws, h1, kr⟩ := R.at_ i a _ hφ e1
          obtain ⟨w, rfl, rw'⟩ := rels1 q2
          obtain ⟨b, ts, rfl, q', rs', _⟩ := sq_lst R rw' e2
          obtain ⟨ps, kws2, rfl, pp, kr2⟩ := pairs_rel rs' em
          refine mt_updP hx.calm pins s σ H _ _ v us Q I r1 r2 ⟨a, b, kws, ps, kws2, rfl, rfl, h1, by rw [hx.K]; exact SqL.of q', by rw [hx.K]; exact pp, by rw [sl_eq, ← KRel.len kr, ← KRel.len kr2]; exact hl, ?_⟩
          have n0 : Nxt φ φ H (upd H a (.dK (mergeK kws kws2))) := Nxt.mut h1 trivial (List.mem_of_getElem? hφ)
          obtain ⟨R', n'⟩ := R.set (o' := .dK (mergeKD kvs more)) (u := .dK (mergeK kws kws2)) hφ e1 ⟨_, upd_same, (kr2.merge kr).nxt n0⟩
          exact P _ _ n' R' _ (by simp only [VRel])
        · rw [if_neg hl] at P; exact P.elim
    · exact P.elim
  · exact P.elim
theorem intKeys_eq {G : Glo} {φ : List Addr} {H : Hp} : ∀ {kvs : List (Key × D)} {kws : List (Key × V)} {ns : List Int}, intKeys kvs = some ns → KRel G φ H kvs kws → kws.map (·.1) = ns.map Sum.inl
  | [], kws, ns, e, r => by cases e; simp only [KRel] at r; subst r; rfl
  | (.inl i, d) :: r, kws, ns, e, h => by
    simp only [KRel] at h
    obtain ⟨v, ks, rfl, _, t⟩ := h
    unfold intKeys at e
    cases e1 : intKeys r with
    | none => rw [e1] at e; cases e
    | some ms => rw [e1] at e; cases e; simp only [List.map_cons, intKeys_eq e1 t]
  | (.inr i, d) :: r, kws, ns, e, h => by cases e
theorem cx_sortD : CallRx C (.builtin "sorted") (b1 fSortD) := CallRx.imp (fun X => rSortedDI) (fun _ _ hx => cr_sortedDI hx.calm) fun X W hx φ S H ds vs Q R r P => by
  obtain ⟨d, v, rfl, rv, P⟩ := b1_some P r
  unfold fSortD at P
  cases d with
  | ref i =>
    dsimp only at P
    simp only [VRel] at rv
    obtain ⟨a, rfl, hφ⟩ := rv
    cases hS : S[i]? with
    | none => rw [hS] at P; exact P.elim
    | some ob =>
      rw [hS] at P
      cases ob with
      | dK kvs =>
        dsimp only at P
        cases e : intKeys kvs with
        | none => rw [e] at P; exact P.elim
        | some ns =>
          rw [e] at P
          obtain ⟨kws, h1, kr⟩ := R.at_ i a _ hφ hS
          refine ⟨a, kws, ns, rfl, h1, intKeys_eq e kr, fun ys p hp hu hn => ?_⟩
          rw [up_uniq (hp.trans (srt_perm ns).symm) hu (srt_up ns)]
          exact PstV.lst P R (ints_rel _) hn
      | _ => exact P.elim
  | _ => exact P.elim
theorem cx_sortILD : CallRx C (.builtin "sorted") (orB (b1 fSortI) (orB (b1 fSortL) (b1 fSortD))) := CallRx.or cx_sortI (CallRx.or cx_sortL cx_sortD)
end
end Z

namespace SeW
open PySem PySem.Spec PyProof.Rows L2
section
variable {P : Program} {w : World} {A : Around} {E : Value → Shared → Prop} {s : Shared} {a : Addr}
theorem sort_any {S : Int → Bool} {n : Nat} {Q : Value → Shared → Prop} (R : SetR w s.heap a S n) (hh : A.handled = none) (h4 : n ≤ 4000)
    (hQ : ∀ s' p (out : List Value) (c : Nat) (ns : List Int), (∀ b o, s.heap.get? b = some o → s'.heap.get? b = some o) → s'.gens = s.gens → s'.os = s.os → s.heap.objs.size ≤ p →
      s'.heap.get? p = some (seqObj "list" out.toArray c) → IntsAre out ns → ns.Pairwise (· ≤ ·) → ns.Nodup → (∀ k, k ∈ ns ↔ S k = true) → ns.length = n → Q (.ref p) s') :
    wpAny (model P w) A (call (.builtin "sorted") [.ref a]) Q E s := by
  obtain ⟨o, es, ep, t, ho, hex, hd, g, nd, hm, hb, hf, hn, hr, hl⟩ := R
  refine Calls.call_function_entry PyProof.Rows.kind_sorted PyProof.Rows.plain_sorted PyProof.Rows.entry_sorted (PyProof.Rows.args_sorted1 _) ?_
  unfold Builtin.«sorted»; refine wpAny_bind (m := checkCount "sorted" 1 1 _) (wpAny_pure ?_)
  refine wpAny_bind (collect_set (A := A.in1) hh ⟨o, ho, hex.1, hd⟩ hf hb hr hl fun s1 vs k1 hz g1 o1 pm => ?_)
  have lvs : vs.length = n := by rw [pm.length_eq, List.length_map, Array.length_toList]; exact hn
  have lsz : vs.length ≤ sizeLine := by rw [lvs, sizeLine_eq]; omega
  have hI : IntsAre vs (vs.map Builtin.Re.reRawOf) := ints_of vs fun v hv => by
    obtain ⟨e, he, q⟩ := List.mem_map.mp (pm.mem_iff.mp hv)
    obtain ⟨k, tk, h1, _⟩ := g e he; exact ⟨k, tk, by rw [← q]; exact h1⟩
  have pk : (vs.map Builtin.Re.reRawOf).Perm (es.toList.map keyOf) := by
    have q := pm.map Builtin.Re.reRawOf; rw [List.map_map] at q; exact q
  refine wpAny_bind (wpAny_newList ?_ lsz)
  have hoL : (s1.heap.push (seqObj "list" vs.toArray 0)).get? s1.heap.objs.size = some (seqObj "list" vs.toArray 0) := Heap.get?_push_size _ rfl
  refine wpAny_bind (wpAny_holding (wpAny_call_entry PyProof.Rows.slot_list_sort ⟨_, hoL, rfl⟩ PyProof.Rows.entry_list_sort
    (SrtO.list_sort_ord (s := { s1 with heap := s1.heap.push (seqObj "list" vs.toArray 0) }) SrtO.swo_int hoL lsz (fun h2 => SrtO.ints_sortable hI h2) fun out h1 h2 => ⟨_, rfl, ?_⟩) (PyProof.Rows.args_list_sort _)))
  obtain ⟨q1, q2, q3⟩ := SrtO.ints_out hI h1 h2
  obtain ⟨c, hc⟩ := PyProof.Rows.sortedHeap_at (vs := vs) (out := out.toArray) hoL
  have pn : (out.map SrtO.iv).Perm (es.toList.map keyOf) := q2.trans pk
  refine wpAny_pure ⟨_, rfl, hQ _ s1.heap.objs.size out c (out.map SrtO.iv) (fun b u e => ?_) g1 o1 hz hc q1 q3 (pn.nodup_iff.mpr nd) (fun k => by rw [pn.mem_iff, ← hm k]) ?_⟩
  · have q := k1 b u e; have hlt := Heap.lt_size q
    show (PyProof.Rows.sortedHeap (s1.heap.push (seqObj "list" vs.toArray 0)) s1.heap.objs.size vs out.toArray).get? b = some u
    rw [PyProof.Rows.sortedHeap_old (Nat.ne_of_lt hlt) (by rw [size_push']; exact Nat.lt_succ_of_lt hlt)]; exact Heap.get?_push_of_some _ q
  · rw [pn.length_eq, List.length_map, Array.length_toList]; exact hn
end
def tSortW (K : PySem.W.Frag) (te : TE) : TE := fun σ H Q => te σ H fun x H1 => ∃ (t : Bool) (l : Addr) (ns : List Int), x = .ref l ∧ Z.SqB K H1 t l (ns.map V.int) ∧ ns.length ≤ 4000 ∧
  ∀ (ns' : List Int) (p : Addr), ns'.Pairwise (· ≤ ·) → ns'.Nodup → (∀ k : Int, k ∈ ns' ↔ k ∈ ns) → H1 p = none → Q (.ref p) (upd H1 p (.lst (ns'.map V.int)))
def tLenW (K : PySem.W.Frag) (te : TE) : TE := fun σ H Q => te σ H fun x H1 => ∃ (t : Bool) (l : Addr) (ns : List Int), x = .ref l ∧ Z.SqB K H1 t l (ns.map V.int) ∧ ns.length ≤ 4000 ∧
  ∀ ns' : List Int, ns'.Nodup → (∀ k : Int, k ∈ ns' ↔ k ∈ ns) → Q (.int (ns'.length : Nat)) H1
section
variable {X : Cx}
theorem pe_sortW {a : Expr} {te : TE} {p p2 q pos : Pos} (hc : X.calm = true) (hg : Gl X "sorted") (hm : X.mg "sorted" = none) (hg2 : Gl X "set") (hm2 : X.mg "set" = none) (ha : PE X a te)
    (na : starEach [a] X.env = (false, eval a X.env) :: starEach [] X.env := by rfl) : PE X (.Call (.Name "sorted" p) [.Call (.Name "set" p2) [a] [] q] [] pos) (tSortW X.K te) := by
  refine ⟨fun pins s σ H Q I h => ?_⟩
  refine Call_ (ld_blt (u := .builtin "sorted") I hg hm (by first | rfl | decide +kernel) ?_ (by decide) (by decide))
  refine PyProof.Rows.callWith_builtin1 (PyProof.Rows.args_cons ?_ rfl) rfl rfl
  refine Call_ (ld_blt I hg2 hm2 PyProof.Rows.boot_set ?_)
  refine PyProof.Rows.callWith_type1 (PyProof.Rows.args_cons (thn (ha.run pins s σ H _ I h) fun v s1 ⟨x, H1, I1, r1, q1⟩ => PyProof.Rows.args_nil ?_) na) na rfl
  obtain ⟨t, l, ns, rfl, hq, h64, q1⟩ := q1
  cases r1
  obtain ⟨its, rv, p', hz, lt⟩ := Z.inv_seqB I1 hq
  have fin : ∀ (h' : Heap) (tk c : Nat), SetR X.w h' s1.heap.objs.size (fun j => decide (j ∈ ns)) c → c ≤ ns.length → (∀ b o, s1.heap.get? b = some o → h'.get? b = some o) →
      wpAny (model X.prog X.w) X.A (call (.builtin "sorted") [.ref s1.heap.objs.size]) (EP X pins σ Q) X.xe { s1 with heap := h', toks := tk } := fun h' tk c R hcl k => by
    have I2 : Inv X pins σ H1 { s1 with heap := h', toks := tk } := I1.kept k
    refine sort_any R (I2.ok.hd hc) (by omega) fun s' p out c ns' k' g o hp hg hi hs hnd hm hl => ?_
    have hlen : (ns'.map V.int).length ≤ sizeLine := by rw [List.length_map, hl, sizeLine_eq]; omega
    have hn : H1 p = none := I2.hok.fresh hp
    have J : Inv X pins σ (upd H1 p (.lst (ns'.map V.int))) s' := I2.call' (ch := []) o (Un.laid (h := h') k' hp hn) (I2.hok.laid (o := .lst (ns'.map V.int)) k' hp ⟨hlen, out, c, vals_of_ints hi, hg⟩) (by rw [g]; exact I2.bare) (fun _ z => nomatch z)
    exact ⟨.ref p, _, J, rfl, q1 ns' p hs hnd (fun k => by rw [hm k]; simp) hn⟩
  cases t
  · exact SeX.set_of_list ns (I1.ok.hd hc) p' (by simpa using rv.ints) (by unfold scanBound; omega) fun h' tk c R hcl k => PyProof.Rows.args_nil (fin h' tk c R hcl k)
  · exact call_set_tupI ns (I1.ok.hd hc) p' (by simpa using rv.ints) (by unfold scanBound; omega) fun h' tk c R hcl k => PyProof.Rows.args_nil (fin h' tk c R hcl k)
theorem pe_lenW {a : Expr} {te : TE} {p p2 q pos : Pos} (hc : X.calm = true) (hg : Gl X "len") (hm : X.mg "len" = none) (hg2 : Gl X "set") (hm2 : X.mg "set" = none) (ha : PE X a te)
    (na : starEach [a] X.env = (false, eval a X.env) :: starEach [] X.env := by rfl) : PE X (.Call (.Name "len" p) [.Call (.Name "set" p2) [a] [] q] [] pos) (tLenW X.K te) := by
  refine ⟨fun pins s σ H Q I h => ?_⟩
  refine Call_ (ld_blt I hg hm boot_len ?_)
  refine PyProof.Rows.callWith_builtin1 (PyProof.Rows.args_cons ?_ rfl) rfl rfl
  refine Call_ (ld_blt I hg2 hm2 PyProof.Rows.boot_set ?_)
  refine PyProof.Rows.callWith_type1 (PyProof.Rows.args_cons (thn (ha.run pins s σ H _ I h) fun v s1 ⟨x, H1, I1, r1, q1⟩ => PyProof.Rows.args_nil ?_) na) na rfl
  obtain ⟨t, l, ns, rfl, hq, h64, q1⟩ := q1
  cases r1
  obtain ⟨its, rv, p', hz, lt⟩ := Z.inv_seqB I1 hq
  have fin : ∀ (h' : Heap) (tk c : Nat), SetR X.w h' s1.heap.objs.size (fun j => decide (j ∈ ns)) c → c ≤ ns.length → (∀ b o, s1.heap.get? b = some o → h'.get? b = some o) →
      wpAny (model X.prog X.w) X.A (call (.builtin "len") [.ref s1.heap.objs.size]) (EP X pins σ Q) X.xe { s1 with heap := h', toks := tk } := fun h' tk c R hcl k => by
    have I2 : Inv X pins σ H1 { s1 with heap := h', toks := tk } := I1.kept k
    obtain ⟨o, es, ep, t, ho, hex, hd, g, nd, hm', hb, hf, hn, hr, hl⟩ := R
    have q2 := q1 (es.toList.map keyOf) nd fun k => by rw [← hm' k]; simp
    rw [List.length_map, Array.length_toList] at q2
    refine call_len_set ho hex hd hf (by rw [hn] <;> omega) ⟨.int (es.size : Nat), H1, I2.tok _, ⟨_, rfl⟩, q2⟩
  cases t
  · exact SeX.set_of_list ns (I1.ok.hd hc) p' (by simpa using rv.ints) (by unfold scanBound; omega) fun h' tk c R hcl k => PyProof.Rows.args_nil (fin h' tk c R hcl k)
  · exact call_set_tupI ns (I1.ok.hd hc) p' (by simpa using rv.ints) (by unfold scanBound; omega) fun h' tk c R hcl k => PyProof.Rows.args_nil (fin h' tk c R hcl k)
end
end SeW
namespace Z
open PySem PySem.Spec PyProof.Rows L2
def dSortW (a : DE) : DE := fun env S => (a env S).bind fun x S1 => match (itemsD S1 x).bind intsOf with
  | some ns => if ns.length ≤ 4000 then .ok (.ref S1.length) (S1 ++ [.lst ((srtU ns).map D.int)]) else .bad
  | none => .bad
def dLenW (a : DE) : DE := fun env S => (a env S).bind fun x S1 => match (itemsD S1 x).bind intsOf with
  | some ns => if ns.length ≤ 4000 then .ok (.int ((srtU ns).length : Nat)) S1 else .bad
  | none => .bad
theorem lt_of_nd : ∀ {l : List Int}, l.Pairwise (· ≤ ·) → l.Nodup → l.Pairwise (· < ·)
  | [], _, _ => List.Pairwise.nil
  | x :: l, h, n => by
    rw [List.pairwise_cons] at h
    rw [List.nodup_cons] at n
    refine List.pairwise_cons.mpr ⟨fun y hy => ?_, lt_of_nd h.2 n.2⟩
    have := h.1 y hy
    have : x ≠ y := fun e => n.1 (e ▸ hy)
    omega
theorem nd_of_lt {l : List Int} (h : l.Pairwise (· < ·)) : l.Nodup := h.imp fun h => by omega
theorem pex_sortW {C : Cp} {a : Expr} {da : DE} {p p2 q pos : Pos} (hg : glB C "sorted" = true) (hm : C.G.mg "sorted" = none) (hg2 : glB C "set" = true) (hm2 : C.G.mg "set" = none) (ha : PEx C a da)
    (na : ∀ env, starEach [a] env = (false, eval a env) :: starEach [] env := by intro _; rfl) : PEx C (.Call (.Name "sorted" p) [.Call (.Name "set" p2) [a] [] q] [] pos) (dSortW da) := fun X W hx => by
  refine pe_imp (SeW.pe_sortW hx.calm (glB_ok hg hx) (by rw [hx.mg]; exact hm) (glB_ok hg2 hx) (by rw [hx.mg]; exact hm2) (ha X W hx) (na X.env)) fun σ H Q ⟨φ, S, env, R, E, P⟩ => ?_
  refine ⟨φ, S, env, R, E, ?_⟩
  have P0 := P.bind
  cases qd : da env S with
  | bad => rw [qd] at P0; exact P0.elim
  | er y S1 => rw [qd] at P0; exact P0
  | ok x S1 =>
    rw [qd] at P0
    intro φ1 H1 n1 R1 v r1
    have P1 := P0 φ1 H1 n1 R1
    dsimp only at P1
    cases hi : (itemsD S1 x).bind intsOf with
    | none => rw [hi] at P1; exact P1.elim
    | some ns =>
      rw [hi] at P1
      obtain ⟨ds, hds, hns⟩ := Option.bind_eq_some_iff.mp hi
      obtain ⟨a, vs, rfl, sq, rs⟩ := items_kind R1 r1 hds
      have evs : vs = ns.map V.int := by
        rw [intsOf_eq hns] at rs
        exact (rel_ints rs)
      subst evs
      by_cases h64 : ns.length ≤ 4000
      · dsimp only at P1
        rw [if_pos h64] at P1
        refine ⟨kindD x, a, ns, rfl, by rw [hx.K]; exact sq, h64, fun ns' p hu hnd hk hn => ?_⟩
        rw [strict_uniq (fun k => (hk k).trans (mem_srtU k ns).symm) (lt_of_nd hu hnd) (srtU_up ns)]
        obtain ⟨R2, n2⟩ := R1.push (o := .lst ((srtU ns).map D.int)) (u := .lst ((srtU ns).map V.int)) hn ⟨_, upd_same, ints_rel _⟩
        refine P1 _ _ n2 R2 _ ?_
        simp only [VRel]
        exact ⟨p, rfl, by rw [← R1.len]; simp⟩
      · dsimp only at P1
        rw [if_neg h64] at P1
        exact P1.elim
theorem pex_lenW {C : Cp} {a : Expr} {da : DE} {p p2 q pos : Pos} (hg : glB C "len" = true) (hm : C.G.mg "len" = none) (hg2 : glB C "set" = true) (hm2 : C.G.mg "set" = none) (ha : PEx C a da)
    (na : ∀ env, starEach [a] env = (false, eval a env) :: starEach [] env := by intro _; rfl) : PEx C (.Call (.Name "len" p) [.Call (.Name "set" p2) [a] [] q] [] pos) (dLenW da) := fun X W hx => by
  refine pe_imp (SeW.pe_lenW hx.calm (glB_ok hg hx) (by rw [hx.mg]; exact hm) (glB_ok hg2 hx) (by rw [hx.mg]; exact hm2) (ha X W hx) (na X.env)) fun σ H Q ⟨φ, S, env, R, E, P⟩ => ?_
  refine ⟨φ, S, env, R, E, ?_⟩
  have P0 := P.bind
  cases qd : da env S with
  | bad => rw [qd] at P0; exact P0.elim
  | er y S1 => rw [qd] at P0; exact P0
  | ok x S1 =>
    rw [qd] at P0
    intro φ1 H1 n1 R1 v r1
    have P1 := P0 φ1 H1 n1 R1
    dsimp only at P1
    cases hi : (itemsD S1 x).bind intsOf with
    | none => rw [hi] at P1; exact P1.elim
    | some ns =>
      rw [hi] at P1
      obtain ⟨ds, hds, hns⟩ := Option.bind_eq_some_iff.mp hi
      obtain ⟨a, vs, rfl, sq, rs⟩ := items_kind R1 r1 hds
      have evs : vs = ns.map V.int := by
        rw [intsOf_eq hns] at rs
        exact (rel_ints rs)
      subst evs
      by_cases h64 : ns.length ≤ 4000
      · dsimp only at P1
        rw [if_pos h64] at P1
        refine ⟨kindD x, a, ns, rfl, by rw [hx.K]; exact sq, h64, fun ns' hnd hk => ?_⟩
        have hp : ns'.Perm (srtU ns) := (List.perm_ext_iff_of_nodup hnd (nd_of_lt (srtU_up ns))).mpr fun k => (hk k).trans (mem_srtU k ns).symm
        rw [hp.length_eq]
        refine P1 _ _ (Nxt.refl _ _) R1 _ ?_
        simp only [VRel]
      · dsimp only at P1
        rw [if_neg h64] at P1
        exact P1.elim
def jS (x : Str) : Itd := fun k _ => some (if h : k < x.cps.size then some (.str ⟨#[x.cps[k]]⟩) else none)
theorem it_str {G : Glo} {φ0 : List Addr} {H0 : Hp} {x : Str} : ItRel G φ0 H0 (jS x) (Its x) := by
  refine ⟨fun k φ S H nx R e => ?_, fun k φ S H d nx R e => ?_⟩
  · have e' := Option.some.inj e
    show x.cps.size ≤ k
    by_cases h : k < x.cps.size
    · rw [dif_pos h] at e'; cases e'
    · omega
  · have e' := Option.some.inj e
    by_cases h : k < x.cps.size
    · rw [dif_pos h] at e'
      cases e'
      refine ⟨h, fun y H' z => ?_⟩
      obtain ⟨rfl, c, hc, rfl⟩ := z
      rw [Array.getElem?_eq_getElem h] at hc
      cases hc
      exact ⟨Nxt.refl _ _, R, by simp only [VRel]⟩
    · rw [dif_neg h] at e'; cases e'
def iStrD (a : DE) : DI := fun env S => (a env S).bind fun x S1 => match x with
  | .str y => .ok (jS y) S1
  | _ => .bad
theorem pix_str {C : Cp} {tg e : Expr} {d : DE} (he : PEx C e d) : PIx C tg e (iStrD d) := fun X W h => by
  refine pi_imp (pi_str (he X W h)) fun σ H R ⟨φ, S, env, R0, E, P⟩ => ⟨φ, S, env, R0, E, ?_⟩
  have P0 := P.bind
  refine P0.imp fun φ1 H1 S1 x n1 R1 P1 v r1 => ?_
  cases x with
  | str y =>
    simp only [VRel] at r1
    exact ⟨y, r1, Pst.now P1 R1 _ it_str⟩
  | _ => exact P1.elim
end Z

namespace Z
open PySem PySem.Spec PyProof.Rows L2
section
open PySem.W PySem.Calls
variable {P : Program} {w : World} {A : Around} {E : Value → Shared → Prop} {hp : Heap} {g : Array GenState} {dn : Drawn} {tk : Nat} {os : OsState}
variable {B newId initId : String} {bmB : List Value} {K : Frag} {C x u t0 : Addr}
theorem xs_wrapped (FB : ExcBaseFacts B newId initId bmB) {us : List Value} {Q : Value → Shared → Prop} (X : K.In hp) (q : excInitIn K C bmB newId = true)
    (hu : hp.get? u = some (kxs_mw initId x)) (hx : hp.get? x = some (excObj C t0 none .none)) (hz : us.length ≤ sizeLine)
    (fin : ∀ hp' t1, (∀ b o, b ≠ x → hp.get? b = some o → hp'.get? b = some o) → hp'.get? x = some (excObj C t1 none .none) → Q .none ⟨hp', g, dn, tk, os⟩) :
    wpAny (model P w) A (call (.ref u) us) Q E ⟨hp, g, dn, tk, os⟩ := by
  obtain ⟨_, _, _, _, _, _, _, _, _, _, _, _, _, _, _, _, hC, _⟩ := excInit_of X q
  have ty : (Value.type "method-wrapper" == Value.type "method" || Value.type "method-wrapper" == Value.type "builtin_function_or_method" || Value.type "method-wrapper" == Value.type "method-wrapper") = true := by decide
  refine wpAny_call (codeAny_of_tree ?_)
  show wpAny _ A.in1 (callAny (.ref u) ⟨us, []⟩) _ _ _
  simp only [callAny]
  refine wpAny_bind (wpAny_load hu ?_)
  simp only [kxs_mw, ty, if_true]
  refine KFB.if_so (by decide) (wpAny_bind (check_bound_init FB.toExcCallFacts hC hx rfl ?_))
  refine wpAny_bind (wpAny_pure (wpAny_pure ⟨plainId_quiet FB.init.plain _, codeAny_builtin FB.initEntry ?_⟩))
  refine exc_init_tree (t0 := t0) (cls := .ref C) (dv := none) (c2 := .none) (c3 := .none) (b4 := .bool false) hx hz fun hp' k e' _ => ?_
  exact fin hp' _ k e'
theorem xs_store (SF : StoreFacts B bmB "object.__setattr__" "object") {name : Str} {v : Value} {Q : Unit → Shared → Prop} (X : K.In hp) (q : excOver K C bmB = true) (hh : hasDictIn K C = true) (sa : findIn K (.ref C) "__setattr__" = some (some (.builtin "object.__setattr__")))
    (ht : takerIn K C name = some none) (hx : hp.get? x = some (excObj C t0 none .none))
    (fin : ∀ hp' tk' dx, (∀ b o, b ≠ x → hp.get? b = some o → hp'.get? b = some o) → hp.objs.size ≤ dx → dx ≠ x → hp'.get? x = some (excObj C t0 (some dx) .none) → hp'.Ns1 dx (fun y => if y = name then some v else none) → Q () ⟨hp', g, dn, tk', os⟩) :
    wpAny (model P w) A (setAttr (.ref x) name v) Q E ⟨hp, g, dn, tk, os⟩ := by
  have I : InstAt hp x (excObj C t0 none .none) C none := ⟨hx, rfl, rfl, trivial⟩
  have hlt : x < hp.objs.size := Heap.lt_size hx
  obtain ⟨cd, hc, hd⟩ := any_some hh
  refine set_plain X I sa (osa_openX (s := ⟨hp, g, dn, tk + 1, os⟩) SF X I q ht fun b => ?_)
  refine wpAny_bind (wpAny_pure (wpAny_bind (instanceDict_exc (s := ⟨hp, g, dn, tk + 1, os⟩) hx (looks_clsIn X hc) hd ?_)))
  show wpAny _ _ (Builtin.ObjectAttr.storeInDict hp.objs.size (.str name (tk + 1)) name v) _ _ _
  have hx1 : (hp.push (dictOf [] 0)).get? x = some (excObj C t0 none .none) := Heap.get?_push_of_some _ hx
  have hne : x ≠ hp.objs.size := Nat.ne_of_lt hlt
  refine HandSPX.store_in_new ?_ fun hp' tk' hn hs => ?_
  · exact ⟨_, #[], _, (Heap.get?_update_ne _ _ _ _ hne.symm).trans (Heap.get?_push_at rfl rfl), rfl, fun e he => absurd he (by simp), fun _ => rfl⟩
  · refine fin hp' tk' hp.objs.size (fun b o hb ho => ?_) (Nat.le_refl _) hne.symm ?_ hn
    · exact (hs.2 b (Nat.ne_of_lt (Heap.lt_size ho))).trans ((Heap.get?_update_ne _ _ _ _ hb).trans (Heap.get?_push_of_some _ ho))
    · exact (hs.2 x hne).trans (Heap.get?_update_self _ hx1 rfl)
end
end Z

namespace Z
open PySem PySem.Spec PyProof.Rows L2
open PySem.W PySem.Calls

structure XsShape (params : Arguments) (body : List Stmt) (scope : Scope) (v fld m : Str) : Prop where
  text : ∃ p0 p1 p2 p3 p4 p5 j q0 q1 q2 q3, (∀ env : Env, ∃ pl : Sem Bool, eval (.Call (.Attribute (.Call (.Name "super" p0) [] [] p1) "__init__" p2) [.Constant (.str m) j p3] [] p4) env = (do
      let ov ← attributeBase (.Call (.Name "super" p0) [] [] p1) "__init__" env (eval (.Call (.Name "super" p0) [] [] p1) env)
      standAt p2.atName
      let (f, first) ← holding [ov] (getMethod ov "__init__" pl)
      callWith p4 f first (backTo p4 (starEach [.Constant (.str m) j p3] env)) [])) ∧ body = [.Expr (.Call (.Attribute (.Call (.Name "super" p0) [] [] p1) "__init__" p2) [.Constant (.str m) j p3] [] p4) p5, .Assign [.Attribute (.Name "self" q0) fld q1] (.Name v q2) q3]
  head : ∃ ar : Arg, (params.posonlyargs ++ params.args).head? = some ar ∧ ar.arg = "self"
  sup : scope.names.lookup ("super" : Str) = some .globalImplicit
  cls : scope.names.lookup ("__class__" : Str) = some .free
  self : scope.names.lookup ("self" : Str) = some .local
  val : scope.names.lookup v = some .local
  kind : scope.kind = .function
  noCell : ∀ x ∈ scope.names, x.2 ≠ .cell
  co : scope.isCoroutine = false
  gen : scope.isGenerator = false
  ne : v ≠ ("self" : Str)
  db : (v == ("__debug__" : Str)) = false
  bind : ∀ (name qual : Str) (kV doc pm : Value) (an : Option Addr) (cdv ct : Value) (cc : Addr) (a b : Value), bindArgs (ksFn name qual params body scope .none kV doc pm an cdv ct cc) ⟨[a, b], []⟩ = pure [(("self" : Str), a), (v, b)]
structure XsC (P : Program) (K : Frag) (C : Addr) (v fld m : Str) : Prop where
  base : ∃ (B newId initId : String) (bmB : List Value), ExcBaseFacts B newId initId bmB ∧ KxsFacts B initId ∧ StoreFacts B bmB "object.__setattr__" "object" ∧ excInitIn K C bmB newId = true ∧ excOver K C bmB = true ∧ subIn K (.ref C) (.type B) = some true ∧ ks_superIn K C C "__init__" = some (some (.builtin initId))
  hh : hasDictIn K C = true
  kC : keepIn K (.ref C) = true
  sa : findIn K (.ref C) "__setattr__" = some (some (.builtin "object.__setattr__"))
  tk : takerIn K C fld = some none
  me : mroIn K C (.ref C) = some true
  exC : subIn K (.ref C) (.type "BaseException") = some true
  tyC : typeIn K (.ref C) = some (.type "type")
  opq : nsIn K cStatics "thirdparty.any" = some none
  ini : ∃ (f cc cda : Addr) (name qual : Str) (params : Arguments) (body : List Stmt) (scope : Scope) (kV doc pm ct oc : Value) (an od : Option Addr) (osl : Array (Option Value)),
    findIn K (.ref C) "__init__" = some (some (.ref f)) ∧ typeIn K (.ref f) = some (.type "function") ∧ K.lookup f = some ⟨oc, od, .func (ksFn name qual params body scope .none kV doc pm an (.ref cda) ct cc), osl⟩ ∧ codeIn K (.ref cda) qual = true ∧ XsShape params body scope v fld m ∧
    (∃ (ccl : Value) (cdd : Option Addr) (vs : Array Value) (ccs : Array (Option Value)) (file : Str) (tf : Tok), K.lookup cda = some ⟨ccl, cdd, .fields vs, ccs⟩ ∧ vs[2]? = some (.str file tf) ∧ ((P.main.file : Str) == file) = true) ∧
    ∃ (cl : Value) (cld : Option Addr) (csl : Array (Option Value)), K.lookup cc = some ⟨cl, cld, .cell (some (.ref C)), csl⟩
theorem inter {env : Env} (h : env.scope.kind = .function) : interactive env = false := by
  unfold interactive
  rw [h]
  rfl
section
variable {X : Cx} {pins : List (Addr × Obj)} {σ : St} {H : Hp} {s : Shared} {Q : XK} {C : Addr} {v fld m : Str} {y : V} {u : Value} {k : Nat}
theorem xs_made (T : XsC X.prog X.K C v fld m) (I : Inv X pins σ H s) (ru : RelV y u) (hms : X.mg "super" = none) (htop : (X.prog.main.scope.names.lookup ("super" : Str)).isSome = false) (hr : Room (k + 1) X.A)
    (h : ∀ d, H d = none → Q (.ref C) (some d) (upd H d (.xd [(fld, y)]))) : wpAny (model X.prog X.w) X.A (call (.ref C) [u]) (MkP X pins σ Q) X.xe s := by
  obtain ⟨B, newId, initId, bmB, FB, KF, SF, hq, hqo, hsub, hsup⟩ := T.base
  obtain ⟨f, cc, cda, name, qual, params, body, scope, kV, doc, pm, ct, oc, an, od, osl, hf, tf, lf, hcd, Sh, ⟨ccl, cdd, vs, ccs, file, tfl, lc, hvs, hfile⟩, cl, cld, csl, lcc⟩ := T.ini
  obtain ⟨p0, p1, p2, p3, p4, p5, j, q0, q1, q2, q3, hcall, hbody⟩ := Sh.text
  obtain ⟨ar, har, har2⟩ := Sh.head
  obtain ⟨hp, g, dn, tk, os⟩ := s
  have XK : X.K.In hp := I.kIn
  obtain ⟨nm, N', qn, bs, bm, hdct, sn, sub, ab, col, dd, k0, k1, k2, k3, k5, hC, hT⟩ := excInit_of XK hq
  obtain ⟨cdC, hcl⟩ : ∃ cd, clsIn X.K C = some cd := by
    obtain ⟨cd, e, _⟩ := any_some T.hh
    exact ⟨cd, e⟩
  obtain ⟨oD, hD1, hD2⟩ : ∃ oD, hp.get? C = some oD ∧ oD.data = .cls cdC := by
    unfold clsIn at hcl
    split at hcl
    · rename_i c d cd' sl ho
      cases hcl
      exact ⟨_, XK _ _ ho, rfl⟩
    · cases hcl
  have hz : [u].length ≤ sizeLine := by show 1 ≤ sizeLine; rw [sizeLine_eq]; omega
  refine wpAny_call (HandSPX.call_own FB hT hC (looks_findIn XK hf) (fun self => bind_fn XK self tf) hz ?_)
  obtain ⟨e, ee⟩ : ∃ e, hp.objs.size + 1 = e := ⟨_, rfl⟩
  have kk : ∀ b o, hp.get? b = some o → ((hp.push (kdv_tup [u])).push (HandSPX.excO C hp.objs.size)).get? b = some o := fun b o z => Heap.get?_push_of_some _ (Heap.get?_push_of_some _ z)
  have ge : ((hp.push (kdv_tup [u])).push (HandSPX.excO C hp.objs.size)).get? e = some (excObj C hp.objs.size none .none) := by rw [← ee]; heap_get
  rw [ee]
  have hne : ∀ b o, hp.get? b = some o → b ≠ e := fun b o z q => Nat.ne_of_lt (Nat.lt_succ_of_lt (Heap.lt_size z)) (q.trans ee.symm)
  generalize (hp.push (kdv_tup [u])).push (HandSPX.excO C hp.objs.size) = h1 at *
  have X1 : X.K.In h1 := fun b o z => kk b o (XK b o z)
  refine ks_codeAny_call_defAt (fd := ksFn name qual params body scope .none kV doc pm an (.ref cda) ct cc) (body := body) (binds := [(("self" : Str), .ref e), (v, u)]) (hr.make C [u] []).depth (X1 _ _ lf) rfl (I.nolimit.keeps kk) (codeRec_of X1 hcd) rfl (BindsTo.of_eq (Sh.bind _ _ _ _ _ _ _ _ _ _ _)) Sh.noCell ?_ (fun h2 hns k2 => ?_) Sh.co Sh.gen Sh.kind
  · intro z hz
    rcases List.mem_cons.mp hz with q | q
    · rw [q]; exact Sh.self
    · rw [List.mem_singleton.mp q]; exact Sh.val
  subst hbody
  have X2 : X.K.In h2 := fun b o z => k2 b o (X1 b o z)
  have k02 : ∀ b o, hp.get? b = some o → h2.get? b = some o := fun b o z => k2 b o (kk b o z)
  have ge2 := k2 _ _ ge
  have IX : InstAt h2 e (excObj C hp.objs.size none .none) C none := ⟨ge2, rfl, rfl, trivial⟩
  obtain ⟨mb, b1, b2⟩ := I.mod.blt
  obtain ⟨pl, hcall⟩ := hcall (callEnv (ksFn name qual params [.Expr (.Call (.Attribute (.Call (.Name "super" p0) [] [] p1) "__init__" p2) [.Constant (.str m) j p3] [] p4) p5, .Assign [.Attribute (.Name "self" q0) fld q1] (.Name v q2) q3] scope .none kV doc pm an (.ref cda) ct cc) h1.objs.size f)
  refine ks_wpAt_execs_cons (ks_wpAt_Expr_any (ks_wpAt_MethodCall (pl := pl) (ks_wpAt_super_base (ar := ar) Sh.sup Sh.cls (by decide) rfl (X2 _ _ lf) rfl har rfl (X2 _ _ lc) rfl hvs hfile htop ?_) hcall) (inter Sh.kind))
  refine ks_loadName_global Sh.kind Sh.sup (Calls.loadGlobal_builtin (mg := X.mg) (mb := mb) (v := .type "super") ((I.mod.glob.keeps I.bk).keeps k02) hms ((b1.keeps I.bk).keeps k02) ((b2 _ (by decide)).trans (by kernel_rfl)) ⟨rfl, ?_⟩)
  refine wpAny_loadName_free Sh.kind Sh.cls rfl ⟨_, X2 _ _ lcc, rfl⟩ ?_
  rw [har2]
  have look1 : (List.lookup ("self" : Str) [(("self" : Str), Value.ref e), (v, u)].reverse) = some (.ref e) := by
    show List.lookup ("self" : Str) [(v, u), (("self" : Str), Value.ref e)] = _
    have n1 : (("self" : Str) == v) = false := by
      rw [beq_eq_false_iff_ne]; exact fun z => Sh.ne z.symm
    simp [List.lookup, n1]
  have look2 : (List.lookup v [(("self" : Str), Value.ref e), (v, u)].reverse) = some u := by
    show List.lookup v [(v, u), (("self" : Str), Value.ref e)] = _
    simp [List.lookup]
  refine wpAny_loadName_local Sh.kind Sh.self hns (v := .ref e) look1 ?_
  refine ks_wpAny_isType_cls (k02 _ _ hD1) hD2 ⟨rfl, ?_⟩
  refine ks_wpAny_call_super (k02 _ _ hD1) hD2 ge2 rfl (fun c z => nomatch z) (looks_mroIn X2 T.me) (fun h3 gs k23 => ?_)
  have X3 : X.K.In h3 := fun b o z => k23 b o (X2 b o z)
  have ge3 := k23 _ _ ge2
  have IX3 : InstAt h3 e (excObj C hp.objs.size none .none) C none := ⟨ge3, rfl, rfl, trivial⟩
  have hal : alongIn X.K "__init__" ((cdC.mro.dropWhile (· != .ref C)).drop 1) = some (some (.builtin initId)) := by
    unfold ks_superIn at hsup
    rw [hcl] at hsup
    exact hsup
  have heC : e ≠ C := fun z => hne _ _ hD1 z.symm
  refine kxs_getMethod KF gs (looks_opaque X3 T.opq) (l₀ := cdC.mro) (fun A Q E s k q => wpAny_bind ((looks_clsIn X3 hcl) A _ E s k (wpAny_pure q))) rfl X3 hal (IX3.type.andThen (looks_subIn X3 hsub)) heC (by decide) ?_
  have gu : (h3.push (kxs_mw initId e)).get? h3.objs.size = some (kxs_mw initId e) := Heap.get?_push_at rfl rfl
  have k34 : ∀ b o, h3.get? b = some o → (h3.push (kxs_mw initId e)).get? b = some o := fun b o z => Heap.get?_push_of_some _ z
  obtain ⟨qa, hqa⟩ : ∃ qa, h3.objs.size = qa := ⟨_, rfl⟩
  rw [hqa] at gu ⊢
  generalize h3.push (kxs_mw initId e) = h4 at *
  refine kxs_callWith (i := initId) (x := e) rfl (evalArgs_plain (Calls.spliced_cons (Calls.Constant_str (k := j) (pos := p3) (Calls.spliced_nil ⟨gu, ?_⟩))))
  have X4 : X.K.In h4 := fun b o z => k34 b o (X3 b o z)
  refine xs_wrapped FB X4 hq gu (k34 _ _ ge3) (by show 1 ≤ sizeLine; rw [sizeLine_eq]; omega) fun h5 t1 k45 ge5 => ?_
  have X5 : X.K.In h5 := fun b o z => k45 b o (hne b o (XK b o z)) (X4 b o z)
  have eL : e < h1.objs.size := Heap.lt_size ge
  have nL : h1.objs.size ≠ e := fun z => by omega
  have hns5 : h5.Ns h1.objs.size (fun x => List.lookup x [(("self" : Str), Value.ref e), (v, u)].reverse) := by
    obtain ⟨oL, es, ep, hL, r⟩ := hns
    exact ⟨oL, es, ep, k45 _ _ nL (k34 _ _ (k23 _ _ hL)), r⟩
  refine wpAt_of_wpAny (wpAny_execs_cons (plainObj_wpAny_Assign_Attribute (wpAny_Name (wpAny_loadName_local Sh.kind Sh.val hns5 look2 (wpAny_Name (wpAny_loadName_local Sh.kind Sh.self hns5 look1 ?_))) Sh.db)))
  refine xs_store SF X5 hqo T.hh T.sa T.tk ge5 fun h6 tk' dx k56 sz dne ge6 hn6 => wpAny_execs_nil ⟨rfl, ?_⟩
  have k05 : ∀ b o, hp.get? b = some o → h5.get? b = some o := fun b o z => k45 b o (hne b o z) (k34 _ _ (k23 _ _ (k02 b o z)))
  have k06 : ∀ b o, hp.get? b = some o → h6.get? b = some o := fun b o z => k56 b o (hne b o z) (k05 b o z)
  have h56 : hp.objs.size ≤ dx := by
    have := Heap.lt_size ge5
    have : e ≤ dx := Nat.le_trans (Nat.le_of_lt this) sz
    omega
  obtain ⟨G, g1, g2⟩ := restrict h6 fun b => decide (b ≠ e)
  have gk : ∀ b, b ≠ e → G.get? b = h6.get? b := fun b hb => g1 b (decide_eq_true hb)
  have gn : G.get? e = none := g2 e (by simp)
  have hdx : H dx = none := I.hok.fresh h56
  have hex : H e = none := I.hok.fresh (by show hp.objs.size ≤ e; omega)
  have J : Inv X pins σ (upd H dx (.xd [(fld, y)])) ⟨G, g, dn, tk', os⟩ := by
    refine I.laid (t' := tk') (h' := G) (a := dx) (o := .xd [(fld, y)]) (fun b o z => ?_) h56 ?_
    · rw [gk b (hne b o z)]; exact k06 b o z
    · refine ⟨_, hn6.at fun o z => ?_, fun n => ?_⟩
      · rw [gk dx dne]; exact z
      · exact relO_put (fs := []) (mA := fun _ => none) ru (fun _ => True.intro) n
  refine ⟨e, _, _, ⟨G, g, dn, tk', os⟩, upd H dx (.xd [(fld, y)]), .ref C, some dx, rfl, J, fun b o z => ?_, gn, ge6, ⟨rfl, rfl⟩, rfl, rfl, ?_, rfl, I.bare, raises_own T.exC T.tyC, h dx hdx⟩
  · by_cases hb : b = e
    · rw [hb, gn] at z; cases z
    · rw [← gk b hb]; exact z
  · rw [upd_ne (Ne.symm dne)]; exact hex
end
end Z

namespace Z
open PySem PySem.Spec PyProof.Rows L2
structure Cl where
  c : Value
  slot : Option Nat
  ts : Addr → Value → Option Addr → TS
def clNm (X : Cx) : Option Str → Option Nat → Prop
  | none, none => True
  | some n, some i => X.N[i]? = some n ∧ X.env.kindOf n = some .local
  | _, _ => False
inductive ClsOk (X : Cx) : List ExceptHandler → List Cl → Prop
  | nil : ClsOk X [] []
  | cons {x : Str} {nm : Option Str} {z : Cl} {st0 : Stmt} {sts : List Stmt} {p p' : Pos} {hs : List ExceptHandler} {zs : List Cl} (hc : Names X x z.c) (hn : clNm X nm z.slot)
      (su : ∀ (a : Addr) (oe : Obj) (cls : Value) (d : Option Addr) (pn : List (Addr × Obj)), Zc cls d oe → (∃ vs, oe.data = .fields vs) → PSs (X.suite a ((a, oe) :: pn)) (st0 :: sts) (z.ts a cls d)) (r : ClsOk X hs zs) :
      ClsOk X (.ExceptHandler (some (.Name x p)) nm (st0 :: sts) p' :: hs) (z :: zs)
section
variable {X : Cx} {body : List Stmt} {h0 : ExceptHandler} {hs : List ExceptHandler} {zs : List Cl} {pos : Pos} {tb : WX → TS} {Wo : WX}
end
end Z

namespace Z
open PySem PySem.Spec PyProof.Rows L2 He
structure FnG (G : Glo) (k : Nat) (f : Addr) (fd : FuncData) (ps : List Str) (sp : Sp) : Prop where
  len : ∀ vs H Q E, sp vs H Q E → vs.length = ps.length
  run : ∀ (A : Around) (outer : List Env) (s : Shared) (H : Hp) (args : Args) (us : List Value) (vs : List V) (Q : VK) (E : XK), A.guards = some [] → Room k A → Env0 G.P G.w G.K G.mg G.base A outer s H → BindsTo s fd args (ps.zip us) → Vals vs us → sp vs H Q E →
    codeAny (model G.P G.w) A (.call (.ref f) args) (CR (L2.CX G.P G.w) outer G.P G.w H s Q E) s
theorem FnG.imp {G : Glo} {k : Nat} {f : Addr} {fd : FuncData} {ps : List Str} {sp sp' : Sp} (F : FnG G k f fd ps sp) (h : ∀ vs H Q E, sp' vs H Q E → sp vs H Q E) : FnG G k f fd ps sp' :=
  ⟨fun vs H Q E q => F.len vs H Q E (h _ _ _ _ q), fun A o s H a us vs Q E g hr e b r q => F.run A o s H a us vs Q E g hr e b r (h _ _ _ _ q)⟩
structure FnIsG (G : Glo) (k : Nat) (x : Str) (n : Nat) (F : Fn) : Prop where
  ex : ∃ (f : Addr) (fd : FuncData) (ps : List Str), ps.length = n ∧ FnG G k f fd ps (spD G n F) ∧ G.mg x = some (.ref f) ∧ PySem.W.keepIn G.K (.ref f) = true ∧ Binds G.K fd ps []
section
variable {G : Glo} {x qual : Str} {params : Arguments} {body : List Stmt} {scope : Scope} {dvs : List V} {kws : List (Str × V)} {f : Addr} {fd : FuncData} {N ps : List Str} {k n : Nat} {b : DS}
end
section
variable {cs : List Ck} {fn : List Df} {cl : List Str} {tf : Tf} {pr : Program} {G : Glo} {i j k n : Nat} {d : Df} {y : Str} {N ps : List Str} {b : DS}
end
section
variable {C : Cp} {e : Expr} {es : List Expr} {dr : DA} {x : Str} {p pos : Pos} {k n : Nat} {F : Fn}
end
end Z

namespace Z
open PySem PySem.Spec PyProof.Rows L2 He
section
variable {P : Program} {w : World} {K : PySem.W.Frag} {mg mb : Str → Option Value} {k : Nat} {fa a : Addr} {cs : List (Addr × Addr)} {fd : FuncData} {x : Str} {sp : Sp} {s1 : Shared} {vs : List Value} {ns : List Int} {ad : Nat → Addr} {T : List (Addr × Str)}
def hp0 (K : PySem.W.Frag) (cs : List (Addr × Addr)) (a : Addr) (o : Obj) (ns : List Int) : Hp := fun b => if b ∈ cs.map (·.2) then some (.tbl #[]) else if b = a ∧ K.lookup a = none then some (.frz o (.lst (ns.map V.int))) else none
theorem law_callG (KX : K.In s1.heap) (hns : s1.heap.Ns mainGlobals mg) (hb : s1.heap.Ns builtinsNs mb) (hbb : ∀ x : Str, x ≠ "__name__" → mb x = bootBuiltins x) (hlim : s1.heap.NoLimit) (hg : s1.gens = #[])
    (hT : ∀ p ∈ cs, s1.heap.get? p.2 = some { cls := .none, data := .fields #[] }) (nT : ∀ p ∈ cs, K.lookup p.2 = none) (hC : ∀ p ∈ cs, PySem.W.CodeHd s1.heap p.1 p.2)
    (hbm : ∃ (bm : Addr) (ob : Obj), mg "__builtins__" = some (.ref bm) ∧ bm ≠ builtinsNs ∧ s1.heap.get? bm = some ob ∧ ob.cls = .type "module" ∧ ob.dict = some builtinsNs ∧ ob.data = .plain)
    (ha : s1.heap.get? a = some { cls := .type "list", data := .seq vs.toArray }) (hi : IntsAre vs ns) (hl : ns.length ≤ sizeLine) (hr : Room k callerA)
    (F : ∀ base : Heap, K.In base → base.Ns mainGlobals mg → (∀ p ∈ cs, LamX.TabB base mg p.1 p.2) → FnG ⟨P, w, K, mg, base, ad, T⟩ k fa fd [x] sp) (hbind : ∀ (s : Shared) (u : Value), BindsTo s fd ⟨[u], []⟩ [(x, u)])
    (hsp : ∀ H : Hp, (∀ p ∈ cs, H p.2 = some (.tbl #[])) → SqL K H a (ns.map V.int) → sp [.ref a] H (fun v _ => v = .bl true) fun _ _ _ => False) :
    codeAny (model P w) callerA (.call (.ref fa) ⟨[.ref a], []⟩) (fun r s' => r = .ok (.ret (.bool true)) ∧ OldK s1.heap s'.heap ∧ s'.os = s1.os ∧ AllBare s'.gens) s1 := by
  have rv := vals_ints hi
  have lenV := hi.length
  obtain ⟨H, eH⟩ : ∃ H, hp0 K cs a { cls := .type "list", data := .seq vs.toArray } ns = H := ⟨_, rfl⟩
  have atT : ∀ b ∈ cs.map (·.2), s1.heap.get? b = some { cls := .none, data := .fields #[] } ∧ K.lookup b = none := fun b hm => by
    obtain ⟨p, hp, rfl⟩ := List.mem_map.mp hm
    exact ⟨hT p hp, nT p hp⟩
  have inT : ∀ p ∈ cs, p.2 ∈ cs.map (·.2) := fun p hp => List.mem_map.mpr ⟨p, hp, rfl⟩
  have aT : a ∉ cs.map (·.2) := fun z => by
    have q := (atT a z).1
    rw [ha] at q
    have := congrArg Obj.data (Option.some.inj q)
    cases this
  have hTb : ∀ b ∈ cs.map (·.2), H b = some (.tbl #[]) := fun b hm => by rw [← eH]; exact if_pos hm
  have hA : K.lookup a = none → H a = some (.frz { cls := .type "list", data := .seq vs.toArray } (.lst (ns.map V.int))) := fun hk => by
    rw [← eH]; unfold hp0; rw [if_neg aT, if_pos ⟨rfl, hk⟩]
  have hN : ∀ b, b ∉ cs.map (·.2) → ¬ (b = a ∧ K.lookup a = none) → H b = none := fun b h1 h2 => by
    rw [← eH]; unfold hp0; rw [if_neg h1, if_neg h2]
  have cases3 : ∀ b, b ∈ cs.map (·.2) ∨ (b = a ∧ K.lookup a = none) ∨ H b = none := fun b => by
    by_cases h1 : b ∈ cs.map (·.2)
    · exact .inl h1
    · by_cases h2 : b = a ∧ K.lookup a = none
      · exact .inr (.inl h2)
      · exact .inr (.inr (hN b h1 h2))
  have sq : SqL K H a (ns.map V.int) := by
    cases hk : K.lookup a with
    | none => exact .inl (.inr ⟨_, hA hk⟩)
    | some o =>
      have e := KX a o hk
      rw [ha] at e
      cases e
      exact .inr ⟨_, vs.toArray, _, hk, rfl, rfl, rfl, by rw [List.size_toArray, lenV]; exact hl, by simpa using rv⟩
  have hok : HOk P w H s1.heap := fun b u z => by
    rcases cases3 b with h | ⟨h, hk⟩ | h
    · rw [hTb b h] at z
      cases z
      exact (atT b h).1
    · subst h
      rw [hA hk] at z
      cases z
      exact ⟨ha, by rw [List.length_map]; exact hl, vs, _, rv, ha⟩
    · rw [h] at z; cases z
  have free : ∀ {b : Addr} {o : Obj}, s1.heap.get? b = some o → (∀ us n, o.data ≠ .seq us n) → o.data ≠ .fields #[] → H b = none := fun {b o} e h1 h2 => by
    rcases cases3 b with h | ⟨h, _⟩ | h
    · rw [(atT b h).1] at e
      cases e
      exact (h2 rfl).elim
    · rw [h, ha] at e
      cases e
      exact (h1 _ _ rfl).elim
    · exact h
  have keepD : ∀ {b : Addr} {o : Obj} {es : Array DictEntry} {ep : Nat}, s1.heap.get? b = some o → o.data = .dict es ep → (hidT s1.heap H).get? b = some o := fun {b o es ep} e d =>
    hidT_get e (free e (fun us n z => by rw [d] at z; cases z) fun z => by rw [d] at z; cases z)
  have keepN : ∀ {b : Addr} {m : Str → Option Value}, s1.heap.Ns b m → (hidT s1.heap H).Ns b m := fun ⟨o, es, ep, e, d, r⟩ => ⟨o, es, ep, keepD e d, d, r⟩
  have KB : K.In (hidT s1.heap H) := fun b o e => hidT_get (KX b o e) (by
    rcases cases3 b with h | ⟨h, hk⟩ | h
    · rw [(atT b h).2] at e; cases e
    · rw [h, hk] at e; cases e
    · exact h)
  have md : L2.Mod K mg (hidT s1.heap H) := ⟨KB, keepN hns, ⟨mb, keepN hb, hbb⟩, let ⟨mc, h1, h2⟩ := hlim; ⟨mc, keepN h1, h2⟩⟩
  have TB : ∀ p ∈ cs, LamX.TabB (hidT s1.heap H) mg p.1 p.2 := fun p hp => by
    have tp := hT p hp
    refine ⟨?_, ?_, fun z => ?_⟩
    · obtain ⟨o, us, file, tfl, flags, tg, inF, text, tt, e1, r1, r2, r3, rest⟩ := hC p hp
      exact ⟨o, us, file, tfl, flags, tg, inF, text, tt, hidT_get e1 (free e1 (fun vs n z => by rw [r2] at z; cases z) fun z => by rw [r2] at z; cases z; simp at r3), r1, r2, r3, rest⟩
    · obtain ⟨bm, ob, b1, b2, b3, b4, b5, b6⟩ := hbm
      refine ⟨bm, ob, b1, b2, fun q => ?_, fun q => ?_, hidT_get b3 (free b3 (fun vs n z => by rw [b6] at z; cases z) fun z => by rw [b6] at z; cases z), b4, b5, b6⟩
      · obtain ⟨o, es, ep, e, d, _⟩ := hns
        rw [q, e] at b3
        cases b3
        rw [d] at b6
        cases b6
      · rw [q, tp] at b3
        cases b3
        cases b6
    · obtain ⟨o, es, ep, e, d, _⟩ := hns
      rw [z, tp] at e
      cases e
      cases d
  have e0 : Env0 P w K mg (hidT s1.heap H) callerA [] s1 H := ⟨rfl, md, fun b o e => of_hidT e, Nat.le_of_eq (hidT_size _ _), trivial, fun b hm => absurd (show b ∈ ([] : List Addr) from hm) (by simp), hok, .of_eq hg⟩
  refine codeAny_mono ((F _ KB (keepN hns) TB).run callerA [] s1 H ⟨[.ref a], []⟩ [.ref a] [.ref a] _ _ rfl hr e0 (hbind s1 (.ref a)) (.cons rfl .nil) (hsp H (fun p hp => hTb _ (inT p hp)) sq)) fun r s' h => ?_
  cases r with
  | error e => exact (cx_none h).elim
  | ok fl =>
    cases fl with
    | next => exact False.elim h
    | brk => exact False.elim h
    | cont => exact False.elim h
    | ret u =>
      obtain ⟨v, H', eo, bare, un, hok', r', q⟩ := h
      have q' : v = .bl true := q
      subst q'
      obtain rfl : u = Value.bool true := r'
      have still : ∀ b o, b ∉ cs.map (·.2) → s1.heap.get? b = some o → s'.heap.get? b = some o := fun b o nb e => by
        rcases cases3 b with h | ⟨h, hk⟩ | h
        · exact absurd h nb
        · have z := hA hk
          rw [← h] at z
          obtain ⟨e1, _⟩ := hok b _ z
          obtain ⟨e2, _⟩ := hok' b _ (un.frzs b _ _ z)
          rw [e] at e1
          cases e1
          exact e2
        · exact un.keep b o e h (by intro z; exact absurd (show b ∈ ([] : List Addr) from z) (by simp)) (by simp)
      have more : ∀ b ∈ cs.map (·.2), ∃ us : Array Value, s'.heap.get? b = some { cls := .none, data := .fields us } := fun b hm => by
        obtain ⟨us, z⟩ := un.tbls b #[] (hTb b hm)
        exact ⟨_, hok' b _ z⟩
      refine ⟨rfl, ⟨fun b o e => ?_, fun b o e => ?_⟩, eo, bare⟩
      · by_cases hm : b ∈ cs.map (·.2)
        · obtain ⟨us, e2⟩ := more b hm
          have e1 := (atT b hm).1
          rw [e1] at e
          cases e
          obtain ⟨p, hp, ep⟩ := List.mem_map.mp hm
          have hcd := hC p hp
          have hTp := hT p hp
          have hct := (hcd.tab hTp).isCodeTable
          rw [ep] at hct
          exact .inr (.inl ⟨hct, rfl, #[], us, rfl, by rw [Array.empty_append]; exact e2⟩)
        · exact .inl (still b o hm e)
      · by_cases hm : b ∈ cs.map (·.2)
        · obtain ⟨us, e2⟩ := more b hm
          exact ⟨_, e2⟩
        · exact ⟨o, still b o hm e⟩
end
def LawAtG (P : Program) (w : World) (K : PySem.W.Frag) (k n : Nat) (x : Str) (mg : Str → Option Value) (fa : Addr) (h : Heap) : Prop :=
  ∃ (ad : Nat → Addr) (T : List (Addr × Str)) (fd : FuncData) (cs : List (Addr × Addr)) (sp : Sp), (∀ p ∈ cs, h.get? p.2 = some { cls := .none, data := .fields #[] }) ∧ (∀ p ∈ cs, K.lookup p.2 = none) ∧ (∀ p ∈ cs, PySem.W.CodeHd h p.1 p.2) ∧ (∀ (s : Shared) (u : Value), BindsTo s fd ⟨[u], []⟩ [(x, u)]) ∧
    (∀ (H : Hp) (a : Addr) (ns : List Int), ns.length ≤ n → (∀ p ∈ cs, H p.2 = some (.tbl #[])) → SqL K H a (ns.map V.int) → sp [.ref a] H (fun v _ => v = .bl true) fun _ _ _ => False) ∧
    ∀ base : Heap, K.In base → base.Ns mainGlobals mg → (∀ p ∈ cs, LamX.TabB base mg p.1 p.2) → FnG ⟨P, w, K, mg, base, ad, T⟩ k fa fd [x] sp
theorem walk_ZG {l : PySem.W.OpenLaw} {n k : Nat} {q : Program} {loose : List Str} {XP : (Str → Option Value) → Heap → Prop} {YP : World → Heap → Prop} {d : DefRec} {x : Str}
    (hn : l.most = some n) (hn2 : n ≤ sizeLine) (hdf : d.params.defaults = []) (hr : Room k callerA)
    (F : ∀ (w : World) (mg : Str → Option Value) (fa : Addr) (h : Heap), YP w h → h.Ns mainGlobals mg → mg d.name = some (.ref fa) → ∃ K : PySem.W.Frag, K.In h ∧ LawAtG l.prog w K k n x mg fa h) :
    PySem.W.WalkO q loose XP YP l.row.toRowW d [] (fun f vs => PySem.call f vs) := by
  refine Att.attach_callB hn hdf fun w s0 s1 mg mb fa o pm cd doc a vs ns G Y ho hd hcd hmg hobj hints hlen hbits hg => ?_
  obtain ⟨K, KX, ad, T, fd, cs, sp, h1, h2, h3, h4, h5, h6⟩ := F w mg fa _ Y G.T.g hmg
  exact law_callG KX G.T.g G.T.b G.T.builtins G.T.nolimit hg h1 h2 h3 G.T.bmain hobj hints (Nat.le_trans hlen hn2) hr h6 h4 fun H z1 z2 => h5 H a ns hlen z1 z2
end Z

namespace Z
open PySem PySem.Spec PyProof.Rows L2 He
section
variable {X : Cx} {G : Glo}
end
abbrev HE := Exn → Store → Option D
structure HxOk (G : Glo) (sc : Scope) (N : List Str) (X : Cx) : Prop where
  prog : X.prog = G.P
  w : X.w = G.w
  K : X.K = G.K
  mg : X.mg = G.mg
  N : X.N = N
  sc : X.env.scope = sc
  gd : X.A.guards = some []
  un : X.A.units + 100 < cLine
def tHE (G : Glo) (i : Option Nat) (a : Addr) (cls : Value) (dd : Option Addr) (h : HE) : TE := fun σ H Q => ∃ (φ : List Addr) (S : Store) (x : Exn) (d : D), Rel G φ S H ∧ XRel G φ H x cls dd ∧ (∀ j, i = some j → σ[j]? = some (some (.ref a))) ∧ h x S = some d ∧
  ∀ H' v, Nxt φ φ H H' → Rel G φ S H' → VRel G φ H' d v → Q v H'
def PHx (G : Glo) (sc : Scope) (N : List Str) (i : Option Nat) (e : Expr) (h : HE) : Prop :=
  ∀ (X : Cx) (a : Addr) (oe : Obj) (cls : Value) (dd : Option Addr) (pn : List (Addr × Obj)), HxOk G sc N X → Zc cls dd oe → (∃ vs, oe.data = .fields vs) → PE (X.suite a ((a, oe) :: pn)) e (tHE G i a cls dd h)
def heC (d : D) : HE := fun _ _ => some d
section
variable {G : Glo} {sc : Scope} {N : List Str} {i : Option Nat} {e : Expr} {es : List Expr} {h : HE} {hs : List HE} {pos p : Pos}
end
end Z

namespace Z
open PySem PySem.Spec PyProof.Rows L2 He
structure Hd where
  k : Nat
  slot : Option Nat
  h : HE
inductive HdsZ (G : Glo) (sg : Scope) (Ng : List Str) : List ExceptHandler → List Hd → Prop
  | nil : HdsZ G sg Ng [] []
  | cons {x : Str} {nm : Option Str} {z : Hd} {e : Expr} {p p' pr : Pos} {es : List ExceptHandler} {zs : List Hd} (hg : sg.names.lookup x = some .globalImplicit) (db : (x == ("__debug__" : Str)) = false) (hm : G.mg x = some (.ref (G.ad z.k)))
      (hn : match nm, z.slot with
        | none, none => True
        | some n, some i => Ng[i]? = some n ∧ sg.names.lookup n = some .local
        | _, _ => False) (he : PHx G sg Ng z.slot e z.h) (r : HdsZ G sg Ng es zs) : HdsZ G sg Ng (.ExceptHandler (some (.Name x p)) nm [.Return (some e) pr] p' :: es) (z :: zs)
def tD (G : Glo) (d : D) : TE := fun _ H Q => ∃ (φ : List Addr) (S : Store), Rel G φ S H ∧ ∀ H' v, Nxt φ φ H H' → Rel G φ S H' → VRel G φ H' d v → Q v H'
def PNx (e : Expr) (d : D) : Prop := ∀ (G : Glo) (X : Cx), PE X e (tD G d)
section
variable {e : Expr} {es : List Expr} {d : D} {ds : List D} {pos : Pos}
end
structure WdIs (G : Glo) (x : Str) (exs : List (Nat × List Nat)) (hs : List Hd) (fin : D) : Prop where
  ex : ∃ (g : Addr) (pg : Arguments) (bg : List Stmt) (sg : Scope) (dV kV doc pm cdv ct oc : Value) (an od : Option Addr) (osl : Array (Option Value)) (Ng : List Str) (a : Str) (p1 p2 p3 p4 p5 : Pos) (es : List ExceptHandler) (ef : Expr),
    G.mg x = some (.ref g) ∧ PySem.W.keepIn G.K (.ref g) = true ∧ G.K.lookup g = some ⟨oc, od, .func (PySem.W.fnOf x x pg bg sg dV kV doc pm an cdv ct), osl⟩ ∧ PySem.W.codeIn G.K cdv x = true ∧ L2.Binds G.K (PySem.W.fnOf x x pg bg sg dV kV doc pm an cdv ct) [a] [] ∧
      FnScope Ng [a] sg ∧ Ng[0]? = some a ∧ 0 < Ng.length ∧ visB sg a = true ∧ (a == ("__debug__" : Str)) = false ∧ (a == ("__classdict__" : Str)) = false ∧ bg = [.Try [.Expr (.Call (.Name a p1) [] [] p2) p3] es [] [] p4, .Return (some ef) p5] ∧ es ≠ [] ∧ HdsZ G sg Ng es hs ∧ PNx ef fin
section
variable {C : Cp} {x : Str} {exs : List (Nat × List Nat)} {hs : List Hd} {fin : D} {body : Expr} {d : DE} {scope : Scope} {params : Arguments} {p lpos pos : Pos} {k : Nat} {q : Str} {c : Addr}
end
end Z

namespace Z
open PySem PySem.Spec PyProof.Rows L2 He
def rX0 (c : Nat) : DS := fun _ S => .er ⟨c, none⟩ S
def rX1 (c : Nat) (f : Str) (a : DE) : DS := fun env S => (a env S).bind fun x S1 => .er ⟨c, some [(f, x)]⟩ S1
structure X0Ok (G : Glo) (C : Addr) : Prop where
  exc : PySem.W.excIn G.K C [.type "ValueError", .type "Exception", .type "BaseException", .type "object"] "ValueError.__new__" = true
  kC : PySem.W.keepIn G.K (.ref C) = true
  exC : PySem.W.subIn G.K (.ref C) (.type "BaseException") = some true
  tyC : PySem.W.typeIn G.K (.ref C) = some (.type "type")
section
variable {C : Cp} {c : Nat} {x m : Str} {e : Expr} {da : DE} {p p2 p3 pos : Pos} {j : Nat}
theorem psx_raise0 (h : X0Ok C.G (C.G.ad c)) (hg : okG C x = true) (hm : C.G.mg x = some (.ref (C.G.ad c))) : PSx C (.Raise (some (.Call (.Name x p) [.Constant (.str m) j p2] [] p3)) none pos) (rX0 c) := fun X W hx => by
  obtain ⟨g1, g2⟩ := ba hg
  refine ps_imp (ps_raise hx.calm hx.takes (pmk_own F.excBase_ValueError (by rw [hx.K]; exact h.exc) (by rw [hx.mg]; exact hm) (by rw [hx.K]; exact h.kC) (raises_own (by rw [hx.K]; exact h.exC) (by rw [hx.K]; exact h.tyC)) (glB_ok g1 hx) (nb g2))) fun D σ H ⟨φ, S, env, R, E, P⟩ => ?_
  exact P φ H (Nxt.refl _ _) R _ _ ⟨rfl, rfl⟩ σ
theorem pmk_xs {X : Cx} {C : Addr} {v fld m : Str} {ta : TA} {k : Nat} {e : Expr} (T : XsC X.prog X.K C v fld m) (hg : Gl X x) (hm : X.mg x = some (.ref C)) (hms : X.mg "super" = none) (htop : (X.prog.main.scope.names.lookup ("super" : Str)).isSome = false) (hr : Room (k + 1) X.A) (ha : PA X [e] ta)
    (hdb : (x == ("__debug__" : Str)) = false) (he : starEach [e] X.env = (false, eval e X.env) :: starEach [] X.env) :
    PMk X (.Call (.Name x p) [e] [] pos) (fun σ H Q => ta σ H fun vs H1 => ∃ y, vs = [y] ∧ ∀ d, H1 d = none → Q (.ref C) (some d) (upd H1 d (.xd [(fld, y)]))) := fun pins s σ H Q I h => by
  refine wpAny_Call_Name_kw (ld_glob I hg hm ?_ hdb)
  refine PySem.W.callWith_K (h₀ := X.base) I.ok.mod.kin T.kC (thn (ha.run pos pins s σ H _ I h) fun us s1 ⟨vs, H1, I1, r1, y, ev, q⟩ => ⟨I1.kIn, ?_⟩) he (by rfl)
  subst ev
  obtain ⟨u, rfl, ru⟩ := vals1 r1
  exact xs_made T I1 ru hms htop hr q
theorem psx_raise1 {v fld : Str} (h : XsC C.G.P C.G.K (C.G.ad c) v fld m) (hg : okG C x = true) (hm : C.G.mg x = some (.ref (C.G.ad c))) (hms : C.G.mg "super" = none) (htop : (C.G.P.main.scope.names.lookup ("super" : Str)).isSome = false) (hk : Nat.ble 1 C.k = true) (ha : PEx C e da)
    (he : ∀ env, starEach [e] env = (false, eval e env) :: starEach [] env := by intro _; rfl) : PSx C (.Raise (some (.Call (.Name x p) [e] [] p3)) none pos) (rX1 c fld da) := fun X W hx => by
  obtain ⟨g1, g2⟩ := ba hg
  refine ps_imp (ps_raise hx.calm hx.takes (pmk_xs (k := 0) (by rw [hx.prog, hx.K]; exact h) (glB_ok g1 hx) (by rw [hx.mg]; exact hm) (by rw [hx.mg]; exact hms) (by rw [hx.prog]; exact htop) (hx.room.mono (Nat.le_of_ble_eq_true hk)) (pa_cons (ha X W hx) pa_nil (he X.env)) (nb g2) (he X.env))) fun D σ H ⟨φ, S, env, R, E, P⟩ => ?_
  refine ⟨φ, S, env, R, E, ?_⟩
  have P0 := P.bind
  cases q : da env S with
  | bad => rw [q] at P0; exact P0.elim
  | er y S1 =>
    rw [q] at P0
    exact fun φ1 H1 n1 R1 cls dd xr => P0 φ1 H1 n1 R1 cls dd xr σ
  | ok y S1 =>
    rw [q] at P0
    intro φ1 H1 n1 R1 w r1
    refine ⟨w, rfl, fun d hd => ?_⟩
    have n2 : Nxt φ1 φ1 H1 (upd H1 d (.xd [(fld, w)])) := Nxt.mute hd
    exact P0 φ1 H1 n1 R1 φ1 _ n2 (R1.mute (R1.notmem hd) (Grow.new hd) (nx_none hd)) _ _ ⟨rfl, d, _, rfl, upd_same, w, [], rfl, r1.nxt n2, rfl⟩ σ
end
mutual
def pure_ : D → Bool
  | .ref _ => false
  | .tup ds => pures ds
  | .fls ds => pures ds
  | _ => true
def pures : List D → Bool
  | [] => true
  | d :: ds => pure_ d && pures ds
end
mutual
theorem pure_rel {G : Glo} {φ φ' : List Addr} {H : Hp} : ∀ {d : D} {v : V}, pure_ d = true → VRel G φ H d v → VRel G φ' H d v
  | .non, _, _, h => by simpa only [VRel] using h
  | .bl _, _, _, h => by simpa only [VRel] using h
  | .int _, _, _, h => by simpa only [VRel] using h
  | .str _, _, _, h => by simpa only [VRel] using h
  | .st _, _, _, h => by simpa only [VRel] using h
  | .ty _, _, _, h => by simpa only [VRel] using h
  | .ref _, _, p, _ => by simp only [pure_] at p; cases p
  | .tup ds, _, p, h => by
    simp only [VRel] at h ⊢
    obtain ⟨a, vs, e, s, r⟩ := h
    exact ⟨a, vs, e, s, pures_rel (by simpa only [pure_] using p) r⟩
  | .fls ds, _, p, h => by
    simp only [VRel] at h ⊢
    obtain ⟨a, vs, e, s, r⟩ := h
    exact ⟨a, vs, e, s, pures_rel (by simpa only [pure_] using p) r⟩
theorem pures_rel {G : Glo} {φ φ' : List Addr} {H : Hp} : ∀ {ds : List D} {vs : List V}, pures ds = true → VRels G φ H ds vs → VRels G φ' H ds vs
  | [], _, _, h => by simpa only [VRels] using h
  | d :: ds, _, p, h => by
    simp only [pures] at p
    obtain ⟨p1, p2⟩ := ba p
    simp only [VRels] at h ⊢
    obtain ⟨u, us, e, r, rs⟩ := h
    exact ⟨u, us, e, pure_rel p1 r, pures_rel p2 rs⟩
end
end Z

namespace Z
open PySem PySem.Spec PyProof.Rows L2 He
mutual
def lowD (n : Nat) : D → Prop
  | .ref i => i < n
  | .tup ds => lowDs n ds
  | .fls ds => lowDs n ds
  | _ => True
def lowDs (n : Nat) : List D → Prop
  | [] => True
  | d :: ds => lowD n d ∧ lowDs n ds
end
section
variable {G : Glo} {φ ψ : List Addr} {H H' : Hp}
mutual
theorem low_of : ∀ {d : D} {v : V}, VRel G φ H d v → lowD φ.length d
  | .non, _, _ => by simp only [lowD]
  | .bl _, _, _ => by simp only [lowD]
  | .int _, _, _ => by simp only [lowD]
  | .str _, _, _ => by simp only [lowD]
  | .st _, _, _ => by simp only [lowD]
  | .ty _, _, _ => by simp only [lowD]
  | .ref i, _, h => by
    simp only [VRel] at h
    obtain ⟨a, _, e⟩ := h
    simpa only [lowD] using (List.getElem?_eq_some_iff.mp e).1
  | .tup ds, _, h => by
    simp only [VRel] at h
    obtain ⟨_, vs, _, _, r⟩ := h
    simpa only [lowD] using lows_of r
  | .fls ds, _, h => by
    simp only [VRel] at h
    obtain ⟨_, vs, _, _, r⟩ := h
    simpa only [lowD] using lows_of r
theorem lows_of : ∀ {ds : List D} {vs : List V}, VRels G φ H ds vs → lowDs φ.length ds
  | [], _, _ => by simp only [lowDs]
  | d :: ds, _, h => by
    simp only [VRels] at h
    obtain ⟨u, us, _, r, rs⟩ := h
    simp only [lowDs]
    exact ⟨low_of r, lows_of rs⟩
end
mutual
theorem VRel.cut : ∀ {d : D} {v : V}, lowD φ.length d → VRel G (φ ++ ψ) H d v → VRel G φ H d v
  | .non, _, _, h => by simpa only [VRel] using h
  | .bl _, _, _, h => by simpa only [VRel] using h
  | .int _, _, _, h => by simpa only [VRel] using h
  | .str _, _, _, h => by simpa only [VRel] using h
  | .st _, _, _, h => by simpa only [VRel] using h
  | .ty _, _, _, h => by simpa only [VRel] using h
  | .ref i, _, l, h => by
    simp only [VRel] at h ⊢
    obtain ⟨a, e, q⟩ := h
    rw [List.getElem?_append_left (by simpa only [lowD] using l)] at q
    exact ⟨a, e, q⟩
  | .tup ds, _, l, h => by
    simp only [VRel] at h ⊢
    obtain ⟨a, vs, e, s, r⟩ := h
    exact ⟨a, vs, e, s, VRels.cut (by simpa only [lowD] using l) r⟩
  | .fls ds, _, l, h => by
    simp only [VRel] at h ⊢
    obtain ⟨a, vs, e, s, r⟩ := h
    exact ⟨a, vs, e, s, VRels.cut (by simpa only [lowD] using l) r⟩
theorem VRels.cut : ∀ {ds : List D} {vs : List V}, lowDs φ.length ds → VRels G (φ ++ ψ) H ds vs → VRels G φ H ds vs
  | [], _, _, h => by simpa only [VRels] using h
  | d :: ds, _, l, h => by
    simp only [lowDs] at l
    simp only [VRels] at h ⊢
    obtain ⟨u, us, e, r, rs⟩ := h
    exact ⟨u, us, e, VRel.cut l.1 r, VRels.cut l.2 rs⟩
end
theorem KRel.cut {κ : Type} {H0 : Hp} : ∀ {l : List (κ × D)} {m m0 : List (κ × V)}, KRel G φ H0 l m0 → KRel G (φ ++ ψ) H l m → KRel G φ H l m
  | [], _, _, _, h => h
  | (k, d) :: r, _, _, h0, h => by
    obtain ⟨v0, _, _, r0, t0⟩ := h0
    obtain ⟨v, ks, e, q, t⟩ := h
    exact ⟨v, ks, e, q.cut (low_of r0), KRel.cut t0 t⟩
theorem ORel.cut {H0 : Hp} {a a0 : Addr} {o : O} (h0 : ORel G φ H0 a0 o) (h : ORel G (φ ++ ψ) H a o) : ORel G φ H a o := by
  cases o with
  | lst ds => obtain ⟨v0, _, r0⟩ := h0; obtain ⟨vs, e, r⟩ := h; exact ⟨vs, e, r.cut (lows_of r0)⟩
  | dK ds => obtain ⟨v0, _, r0⟩ := h0; obtain ⟨vs, e, r⟩ := h; exact ⟨vs, e, KRel.cut r0 r⟩
  | dT ds => exact h
  | dQ ds => obtain ⟨v0, _, r0⟩ := h0; obtain ⟨vs, e, r⟩ := h; exact ⟨vs, e, KRel.cut r0 r⟩
  | qT ds => exact h
  | ins c fs => obtain ⟨_, v0, _, r0⟩ := h0; obtain ⟨dx, vs, e, r⟩ := h; exact ⟨dx, vs, e, KRel.cut r0 r⟩
  | slt c vs =>
    obtain ⟨_, w0, _, _, r0⟩ := h0
    obtain ⟨dx, ws, e, k, r⟩ := h
    exact ⟨dx, ws, e, k, fun i d q => let ⟨v, e1, r1⟩ := r i d q; let ⟨_, _, r2⟩ := r0 i d q; ⟨v, e1, r1.cut (low_of r2)⟩⟩
end
section
variable {C : Cp} {e : Expr} {es : List Expr} {dr : DA} {x : Str} {p pos : Pos} {k n : Nat} {F : Fn}
end
end Z

namespace Z
open PySem PySem.Spec PyProof.Rows L2 He
def veL : List Value := [.type "ValueError", .type "Exception", .type "BaseException", .type "object"]
def ckX0 (x : Str) : Ck := fun K => PySem.W.excIn K (ga K x) veL "ValueError.__new__" && (PySem.W.keepIn K (.ref (ga K x)) && (decide (PySem.W.subIn K (.ref (ga K x)) (.type "BaseException") = some true) && decide (PySem.W.typeIn K (.ref (ga K x)) = some (.type "type"))))
inductive Eb where
  | idx | ovf | ari | run | val
def Eb.B : Eb → String
  | .idx => "IndexError" | .ovf => "OverflowError" | .ari => "ArithmeticError" | .run => "RuntimeError" | .val => "ValueError"
def Eb.new : Eb → String
  | .idx => "IndexError.__new__" | .ovf => "OverflowError.__new__" | .ari => "ArithmeticError.__new__" | .run => "RuntimeError.__new__" | .val => "ValueError.__new__"
def Eb.ini : Eb → String
  | .idx => "IndexError.__init__" | .ovf => "OverflowError.__init__" | .ari => "ArithmeticError.__init__" | .run => "RuntimeError.__init__" | .val => "ValueError.__init__"
def Eb.bm : Eb → List Value
  | .idx => [.type "IndexError", .type "LookupError", .type "Exception", .type "BaseException", .type "object"]
  | .ovf => [.type "OverflowError", .type "ArithmeticError", .type "Exception", .type "BaseException", .type "object"]
  | .ari => [.type "ArithmeticError", .type "Exception", .type "BaseException", .type "object"]
  | .run => [.type "RuntimeError", .type "Exception", .type "BaseException", .type "object"]
  | .val => [.type "ValueError", .type "Exception", .type "BaseException", .type "object"]
theorem Eb.facts (b : Eb) : ExcBaseFacts b.B b.new b.ini b.bm ∧ PySem.W.KxsFacts b.B b.ini ∧ StoreFacts b.B b.bm "object.__setattr__" "object" := by
  cases b
  · exact ⟨F.excBase_IndexError, PySem.W.kxs_IndexError, F.store_IndexError⟩
  · exact ⟨F.excBase_OverflowError, PySem.W.kxs_OverflowError, F.store_OverflowError⟩
  · exact ⟨F.excBase_ArithmeticError, PySem.W.kxs_ArithmeticError, F.store_ArithmeticError⟩
  · exact ⟨F.excBase_RuntimeError, PySem.W.kxs_RuntimeError, F.store_RuntimeError⟩
  · exact ⟨F.excBase_ValueError, PySem.W.kxs_ValueError, F.store_ValueError⟩
def ckFile (file : Str) (C f : Addr) (K : PySem.W.Frag) : Bool := match K.lookup f with
  | some ⟨_, _, .func fd, _⟩ => (match fd.code with
    | .ref c => (match K.lookup c with
      | some ⟨_, _, .fields vs, _⟩ => (match (vs[2]? : Option Value) with
        | some (Value.str fl _) => file == fl
        | _ => false)
      | _ => false)
    | _ => false) && (match fd.closure with
    | [(_, cc)] => (match K.lookup cc with
      | some ⟨_, _, .cell (some (.ref D)), _⟩ => decide (D = C)
      | _ => false)
    | _ => false)
  | _ => false
def ckXs (b : Eb) (x fld file : Str) : Ck := fun K => (PySem.W.excInitIn K (ga K x) b.bm b.new && (PySem.W.excOver K (ga K x) b.bm && (decide (PySem.W.subIn K (.ref (ga K x)) (.type b.B) = some true) && eqO (PySem.W.ks_superIn K (ga K x) (ga K x) "__init__") (some (some (.builtin b.ini)))))) &&
  ((PySem.W.hasDictIn K (ga K x) && (PySem.W.keepIn K (.ref (ga K x)) && (eqO (PySem.W.findIn K (.ref (ga K x)) "__setattr__") (some (some (.builtin "object.__setattr__"))) && (eqO (PySem.W.takerIn K (ga K x) fld) (some none) && decide (PySem.W.mroIn K (ga K x) (.ref (ga K x)) = some true))))) &&
  ((decide (PySem.W.subIn K (.ref (ga K x)) (.type "BaseException") = some true) && (decide (PySem.W.typeIn K (.ref (ga K x)) = some (.type "type")) && eqO (PySem.W.nsIn K cStatics "thirdparty.any") (some none))) &&
  (eqO (PySem.W.findIn K (.ref (ga K x)) "__init__") (some (some (.ref (ma K (ga K x) "__init__")))) && (decide (PySem.W.typeIn K (.ref (ma K (ga K x) "__init__")) = some (.type "function")) && ckFile file (ga K x) (ma K (ga K x) "__init__") K))))
def xsText (b : List Stmt) : Option (List Str) := match b with
  | [.Expr (.Call (.Attribute (.Call (.Name s _) [] [] _) i p2) [.Constant (.str m) _ _] [] p4) _, .Assign [.Attribute (.Name se _) fld _] (.Name v _) _] => if (p2.endLine == p4.line) = true then some [s, i, m, se, fld, v] else none
  | _ => none
theorem call_line {o : Expr} {i m : Str} {p2 p3 p4 : Pos} {j : Nat} (h : (p2.endLine == p4.line) = true) (env : Env) : ∃ pl : Sem Bool, eval (.Call (.Attribute o i p2) [.Constant (.str m) j p3] [] p4) env = (do
      let ov ← attributeBase o i env (eval o env)
      standAt p2.atName
      let (f, first) ← holding [ov] (getMethod ov i pl)
      callWith p4 f first (backTo p4 (starEach [.Constant (.str m) j p3] env)) []) := by
  refine ⟨plainOf o env, ?_⟩
  rw [arm_eval_Call]
  refine congrArg _ (funext fun ov => congrArg _ (funext fun _ => ?_))
  exact mcall_line (by rfl) h
theorem xs_text {b : List Stmt} {v fld m : Str} (h : xsText b = some [("super" : Str), ("__init__" : Str), m, ("self" : Str), fld, v]) :
    ∃ p0 p1 p2 p3 p4 p5 j q0 q1 q2 q3, (∀ env : Env, ∃ pl : Sem Bool, eval (.Call (.Attribute (.Call (.Name "super" p0) [] [] p1) "__init__" p2) [.Constant (.str m) j p3] [] p4) env = (do
      let ov ← attributeBase (.Call (.Name "super" p0) [] [] p1) "__init__" env (eval (.Call (.Name "super" p0) [] [] p1) env)
      standAt p2.atName
      let (f, first) ← holding [ov] (getMethod ov "__init__" pl)
      callWith p4 f first (backTo p4 (starEach [.Constant (.str m) j p3] env)) [])) ∧ b = [.Expr (.Call (.Attribute (.Call (.Name "super" p0) [] [] p1) "__init__" p2) [.Constant (.str m) j p3] [] p4) p5, .Assign [.Attribute (.Name "self" q0) fld q1] (.Name v q2) q3] := by
  unfold xsText at h
  split at h
  · rename_i s p0 p1 i p2 m' j p3 p4 p5 se q0 fld' q1 v' q2 q3
    split at h
    · rename_i hl
      simp only [Option.some.injEq, List.cons.injEq, and_true] at h
      obtain ⟨rfl, rfl, rfl, rfl, rfl, rfl⟩ := h
      exact ⟨p0, p1, p2, p3, p4, p5, j, q0, q1, q2, q3, fun env => call_line hl env, rfl⟩
    · cases h
  · cases h
theorem Df.funX {K : PySem.W.Frag} {d : Df} (e : fnA K (d.ad K) = d.val) (c : d.ok K = true) (hc : d.clo = [("__class__" : Str)]) (hv : d.dvs = []) : ∃ (oc : Value) (od : Option Addr) (kV doc pm : Value) (an : Option Addr) (cdv ct : Value) (osl : Array (Option Value)) (cc : Addr),
    K.lookup (d.ad K) = some ⟨oc, od, .func (PySem.W.ksFn d.name d.qual d.params d.body d.scope .none kV doc pm an cdv ct cc), osl⟩ ∧ PySem.W.codeIn K cdv d.qual = true := by
  obtain ⟨_, c2⟩ := ba c
  unfold fnA at e
  cases q : K.lookup (d.ad K) with
  | none =>
    rw [q] at c2
    cases c2
  | some o =>
    obtain ⟨oc, od, dt, osl⟩ := o
    rw [q] at c2 e
    cases dt with
    | func fd =>
      obtain ⟨n1, n2, n3, n4, n5, n6, n7, n8, n9, n10, n11, n12, n13, n14, n15⟩ := fd
      have e2 : (some (n1, n2, n3, n4, n5, n6, n7.map (fun z => (z.1, 0)), n15) : FnW) = some (d.name, d.qual, d.params, .stmts d.body, d.scope, mainGlobals, d.clo.map (fun z => (z, 0)), builtinsNs) := e
      rw [hc] at e2
      simp only [Option.some.injEq, Prod.mk.injEq] at e2
      obtain ⟨h1, h2, h3, h4, h5, h6, h7, h8⟩ := e2
      match n7, h7 with
      | [(y, cc)], h7 =>
        have hy : y = ("__class__" : Str) := by simpa using h7
        subst h1 h2 h3 h4 h5 h6 hy h8
        have c3 : (PySem.W.codeIn K n13 d.qual && (dflB K n8 d.dvs && kwdB K n9 [])) = true := c2
        obtain ⟨k1, k2⟩ := ba c3
        rw [hv] at k2
        have k3 : DflV K n8 [] := dflB_ok (ba k2).1
        have e8 : n8 = .none := by
          rcases k3 with ⟨_, k3⟩ | ⟨k3, _⟩
          · exact k3
          · exact absurd rfl k3
        subst e8
        exact ⟨oc, od, n9, n10, n11, n12, n13, n14, osl, cc, rfl, k1⟩
      | [], h7 => simp at h7
      | _ :: _ :: _, h7 => simp at h7
    | _ => cases c2
section
variable {cs : List Ck} {fn : List Df} {cl : List Str} {tf : Tf} {pr : Program} {G : Glo}
theorem Hyp.defX (h : Hyp cs fn cl tf pr G) (i : Nat) {d : Df} (e0 : fn[i]? = some d) (hc : d.clo = [("__class__" : Str)] := by rfl) (hv : d.dvs = [] := by rfl) : ∃ (oc : Value) (od : Option Addr) (kV doc pm : Value) (an : Option Addr) (cdv ct : Value) (osl : Array (Option Value)) (cc : Addr),
    G.K.lookup (d.ad G.K) = some ⟨oc, od, .func (PySem.W.ksFn d.name d.qual d.params d.body d.scope .none kV doc pm an cdv ct cc), osl⟩ ∧ PySem.W.codeIn G.K cdv d.qual = true := by
  have c2 := (ba (show ((cs.all fun c => c G.K) && fn.all fun d => d.ok G.K) = true from congrArg (fun z : AlZ => z.1) h.all)).2
  have e : fn.map (fun d => _root_.Z.fnA G.K (d.ad G.K)) = fn.map Df.val := congrArg (fun z : AlZ => z.2) h.all
  have e2 : (fn.map fun d => _root_.Z.fnA G.K (d.ad G.K))[i]? = (fn.map Df.val)[i]? := by rw [e]
  rw [List.getElem?_map, List.getElem?_map, e0] at e2
  exact Df.funX (Option.some.inj e2) (List.all_eq_true.mp c2 d (List.mem_of_getElem? e0)) hc hv
theorem Hyp.x0 (h : Hyp cs fn cl tf pr G) (i : Nat) {x : Str} {c : Nat} (hc0 : cl[c]? = some x) (e : cs[i]? = some (ckX0 x)) : X0Ok G (G.ad c) := by
  rw [h.cls c x hc0]
  obtain ⟨c1, q⟩ := ba (h.ck i e)
  obtain ⟨c2, q⟩ := ba q
  obtain ⟨c3, c4⟩ := ba q
  exact ⟨c1, c2, of_decide_eq_true c3, of_decide_eq_true c4⟩
theorem file_ok {file : Str} {C f : Addr} {K : PySem.W.Frag} {oc : Value} {od : Option Addr} {fd : FuncData} {osl : Array (Option Value)} (c : ckFile file C f K = true) (lf : K.lookup f = some ⟨oc, od, .func fd, osl⟩) :
    ∃ cda, fd.code = .ref cda ∧ (∃ (ccl : Value) (cdd : Option Addr) (vs : Array Value) (ccs : Array (Option Value)) (fl : Str) (tfl : Tok), K.lookup cda = some ⟨ccl, cdd, .fields vs, ccs⟩ ∧ vs[2]? = some (.str fl tfl) ∧ (file == fl) = true) ∧
      ∀ n cc, fd.closure = [(n, cc)] → ∃ (cl : Value) (cld : Option Addr) (csl : Array (Option Value)), K.lookup cc = some ⟨cl, cld, .cell (some (.ref C)), csl⟩ := by
  unfold ckFile at c
  rw [lf] at c
  dsimp only at c
  obtain ⟨c1, c2⟩ := ba c
  split at c1
  · rename_i cda e1
    split at c1
    · rename_i ccl cdd vs ccs e2
      split at c1
      · rename_i fl tfl e3
        refine ⟨cda, e1, ⟨ccl, cdd, vs, ccs, fl, tfl, e2, e3, c1⟩, fun n cc e4 => ?_⟩
        rw [e4] at c2
        dsimp only at c2
        split at c2
        · rename_i cl cld D csl e5
          rw [of_decide_eq_true c2] at e5
          exact ⟨cl, cld, csl, e5⟩
        · cases c2
      · cases c1
    · cases c1
  · cases c1
theorem Hyp.xs (h : Hyp cs fn cl tf pr G) (i j : Nat) {b : Eb} {x v fld m : Str} {c : Nat} {d : Df} (hc0 : cl[c]? = some x) (e : cs[i]? = some (ckXs b x fld pr.main.file)) (ed : fn[j]? = some d) (had : d.ad G.K = ma G.K (ga G.K x) "__init__") (Sh : XsShape d.params d.body d.scope v fld m) (hclo : d.clo = [("__class__" : Str)] := by rfl) (hv : d.dvs = [] := by rfl) : XsC G.P G.K (G.ad c) v fld m := by
  rw [h.cls c x hc0]
  obtain ⟨c1, q⟩ := ba (h.ck i e)
  obtain ⟨c2, q⟩ := ba q
  obtain ⟨c3, c4⟩ := ba q
  obtain ⟨a1, r⟩ := ba c1
  obtain ⟨a2, r⟩ := ba r
  obtain ⟨a3, a4⟩ := ba r
  obtain ⟨b1, r⟩ := ba c2
  obtain ⟨b2, r⟩ := ba r
  obtain ⟨b3, r⟩ := ba r
  obtain ⟨b4, b5⟩ := ba r
  obtain ⟨d1, r⟩ := ba c3
  obtain ⟨d2, d3⟩ := ba r
  obtain ⟨f1, r⟩ := ba c4
  obtain ⟨f2, f3⟩ := ba r
  obtain ⟨g1, g2, g3⟩ := b.facts
  obtain ⟨oc, od, kV, doc, pm, an, cdv, ct, osl, cc, lf, hcd⟩ := h.defX j ed hclo hv
  rw [had] at lf
  obtain ⟨cda, k1, k2, k3⟩ := file_ok f3 lf
  have k1 : cdv = .ref cda := k1
  subst k1
  obtain ⟨l1, l2, l3, l4, l5, l6, m1, m2, m3⟩ := k2
  refine ⟨⟨b.B, b.new, b.ini, b.bm, g1, g2, g3, a1, a2, of_decide_eq_true a3, eqO_ok a4⟩, b1, b2, eqO_ok b3, eqO_ok b4, of_decide_eq_true b5, of_decide_eq_true d1, of_decide_eq_true d2, eqO_ok d3, ?_⟩
  exact ⟨_, cc, cda, d.name, d.qual, d.params, d.body, d.scope, kV, doc, pm, ct, oc, an, od, osl, eqO_ok f1, of_decide_eq_true f2, lf, hcd, Sh, ⟨l1, l2, l3, l4, l5, l6, m1, m2, by rw [h.prog]; exact m3⟩, k3 _ cc rfl⟩
end
end Z

namespace Z
open PySem PySem.Spec PyProof.Rows L2 He
section
variable {cs : List Ck} {fn : List Df} {cl : List Str} {tf : Tf} {pr : Program} {G : Glo} {i j : Nat} {d : Df} {y a : Str} {N : List Str} {exs : List (Nat × List Nat)} {hs : List Hd} {fin : D}
end
def dDic0 : DE := fun _ S => .ok (.ref S.length) (S ++ [.dK []])
theorem pex_dic0 {C : Cp} {pos : Pos} : PEx C (.Dict [] [] pos) dDic0 := fun X W hx => pe_imp pe_dnewK fun σ H Q ⟨φ, S, env, R, E, P⟩ => fun p hp => by
  obtain ⟨R1, n1⟩ := R.push (o := .dK []) (u := .dK []) hp ⟨[], upd_same, rfl⟩
  refine P _ _ n1 R1 _ ?_
  simp only [VRel]
  exact ⟨p, rfl, by rw [← R.len]; simp⟩
end Z
namespace Z
open PySem PySem.Spec PyProof.Rows L2 He
def xsScope (scope : Scope) (v : Str) : Bool := decide (scope.names.lookup ("super" : Str) = some .globalImplicit) && (decide (scope.names.lookup ("__class__" : Str) = some .free) && (decide (scope.names.lookup ("self" : Str) = some .local) && (decide (scope.names.lookup v = some .local) && (decide (scope.kind = .function) && (scope.names.all (fun y => !decide (y.2 = .cell)) &&
  (!scope.isCoroutine && (!scope.isGenerator && (decide (v ≠ ("self" : Str)) && !(v == ("__debug__" : Str))))))))))
theorem xs_shape {params : Arguments} {body : List Stmt} {scope : Scope} {v fld m : Str} (h1 : xsText body = some [("super" : Str), ("__init__" : Str), m, ("self" : Str), fld, v]) (h2 : ((params.posonlyargs ++ params.args).head?.map fun z => z.arg) = some ("self" : Str)) (h3 : xsScope scope v = true)
    (h4 : ∀ (name qual : Str) (kV doc pm : Value) (an : Option Addr) (cdv ct : Value) (cc : Addr) (a b : Value), bindArgs (PySem.W.ksFn name qual params body scope .none kV doc pm an cdv ct cc) ⟨[a, b], []⟩ = pure [(("self" : Str), a), (v, b)]) : XsShape params body scope v fld m := by
  obtain ⟨c1, h⟩ := ba h3
  obtain ⟨c2, h⟩ := ba h
  obtain ⟨c3, h⟩ := ba h
  obtain ⟨c4, h⟩ := ba h
  obtain ⟨c5, h⟩ := ba h
  obtain ⟨c6, h⟩ := ba h
  obtain ⟨c7, h⟩ := ba h
  obtain ⟨c8, h⟩ := ba h
  obtain ⟨c9, c10⟩ := ba h
  refine ⟨xs_text h1, ?_, of_decide_eq_true c1, of_decide_eq_true c2, of_decide_eq_true c3, of_decide_eq_true c4, of_decide_eq_true c5, fun x hx => ?_, nb c7, nb c8, of_decide_eq_true c9, nb c10, h4⟩
  · obtain ⟨ar, e1, e2⟩ := Option.map_eq_some_iff.mp h2
    exact ⟨ar, e1, e2⟩
  · have := List.all_eq_true.mp c6 x hx
    simpa using this
theorem htop {cs : List Ck} {fn : List Df} {cl : List Str} {tf : Tf} {pr : Program} {G : Glo} (h : Hyp cs fn cl tf pr G) (e : (pr.main.scope.names.lookup ("super" : Str)).isSome = false) : (G.P.main.scope.names.lookup ("super" : Str)).isSome = false := by
  rw [h.prog]; exact e
end Z

namespace Z
open PySem PySem.Spec
def Lot (S : Store) (i : Nat) (m : Nat) : Prop := ∃ a b c : Int, S[i]? = some (.lst [.int a, .int b, .int c]) ∧ 0 ≤ a ∧ 0 ≤ c ∧ c ≤ m
theorem ix0 {x : D} {l : List D} : L2.atI (x :: l) 0 = some x := by
  have := ix_lit (ds := x :: l) (n := 0) (by simp)
  simpa using this
theorem ix1 {x y : D} {l : List D} : L2.atI (x :: y :: l) 1 = some y := by
  have := ix_lit (ds := x :: y :: l) (n := 1) (by simp)
  simpa using this
theorem ix2 {x y z : D} {l : List D} : L2.atI (x :: y :: z :: l) 2 = some z := by
  have := ix_lit (ds := x :: y :: z :: l) (n := 2) (by simp)
  simpa using this
theorem iN {n i : Nat} (h : i < n) : L2.ixN n (i : Int) = some i := by
  unfold L2.ixN
  rw [if_pos (by omega), if_pos (by omega)]
  simp
theorem iN0 {n : Nat} : L2.ixN (n + 1) 0 = some 0 := iN (i := 0) (by omega)
theorem iN2 {n : Nat} : L2.ixN (n + 3) 2 = some 2 := iN (i := 2) (by omega)
theorem mkFn_wp {nl : Nat} {b : DS} {ds : List D} {S : Store} {Q : D → Store → Prop} : WP (mkFn nl b ds S) Q ↔ WP (b (ds.map some ++ List.replicate (nl - ds.length) none) S) fun f S1 => WP (match f with
  | .rt d => .ok d S1
  | .nx _ => .ok .non S1
  | _ => .bad) Q := by
  unfold mkFn
  exact WP_bind
theorem pow_lt_of {x : Int} {n : Nat} (h0 : 0 ≤ x) (h : x < 2 ^ n) : x.natAbs < 2 ^ n := by
  have : ((x.natAbs : Nat) : Int) < ((2 ^ n : Nat) : Int) := by
    rw [Int.natAbs_of_nonneg h0]
    push_cast
    exact h
  exact_mod_cast this
theorem Lot.mono {S : Store} {i m m' : Nat} (h : Lot S i m) (l : m ≤ m') : Lot S i m' := let ⟨a, b, c, e, h1, h2, h3⟩ := h; ⟨a, b, c, e, h1, h2, by omega⟩
theorem Lot.sub {S S' : Store} {i m : Nat} (h : Lot S i m) (s : Sub S S') : Lot S' i m := let ⟨a, b, c, e, h1⟩ := h; ⟨a, b, c, s _ _ e, h1⟩
theorem Lot.lt {S : Store} {i m : Nat} (h : Lot S i m) : i < S.length := let ⟨_, _, _, e, _⟩ := h; (List.getElem?_eq_some_iff.mp e).1
theorem Kp.at_ {i j : Nat} {S S' : Store} {o : O} (k : Kp i S S') (n : j ≠ i) (h : S[j]? = some o) : S'[j]? = some o := k j o n h
theorem jR_at {n k : Nat} {S : Store} (h : k < n) : jR 0 n k S = some (some (.int (k : Int))) := by
  unfold jR
  rw [if_pos h]; simp
theorem jR_end {n : Nat} {S : Store} : jR 0 n n S = some none := by
  unfold jR
  rw [if_neg (by omega)]
theorem set_ne {S : Store} {j r : Nat} {o u : O} (n : j ≠ r) (h : S[r]? = some u) : (S.set j o)[r]? = some u := by rw [List.getElem?_set_ne n]; exact h
theorem toPy_lay {S : Store} : ∀ {k : Nat} {d : D} {p : PyData}, toPy S k d = some p → p.canLay0 = true := by
  intro k
  induction k with
  | zero =>
    intro d p e
    cases d with
    | non => cases e; rfl
    | bl b => cases e; rfl
    | int i => cases e; rfl
    | str x =>
      simp only [toPy] at e
      split at e
      · cases e
        rename_i h
        simpa only [PyData.canLay0] using h
      · cases e
    | _ => simp only [toPy] at e; cases e
  | succ k ih =>
    have all : ∀ {ds : List D} {ps : List PyData}, seqO (ds.map (toPy S k)) = some ps → PyData.canLayAll0 ps = true := by
      intro ds
      induction ds with
      | nil => intro ps e; cases e; rfl
      | cons d ds ihd =>
        intro ps e
        obtain ⟨a, r, e1, e2, rfl⟩ := seqO_cons e
        rw [PyData.canLayAll0, ih e1, ihd e2]; rfl
    intro d p e
    cases d with
    | non => cases e; rfl
    | bl b => cases e; rfl
    | int i => cases e; rfl
    | str x =>
      simp only [toPy] at e
      split at e
      · cases e
        rename_i h
        simpa only [PyData.canLay0] using h
      · cases e
    | tup ds =>
      simp only [toPy, Option.map_eq_some_iff] at e
      obtain ⟨ps, e, rfl⟩ := e
      simpa only [PyData.canLay0] using all e
    | fls ds =>
      simp only [toPy, Option.map_eq_some_iff] at e
      obtain ⟨ps, e, rfl⟩ := e
      simpa only [PyData.canLay0] using all e
    | ref i =>
      simp only [toPy] at e
      split at e
      · simp only [Option.map_eq_some_iff] at e
        obtain ⟨ps, e, rfl⟩ := e
        simpa only [PyData.canLay0] using all e
      · cases e
    | _ => simp only [toPy] at e; cases e
theorem eqD_same {S : Store} {d e : D} {p : PyData} (h : toPy S 60 d = some p) (h' : toPy S 60 e = some p) : eqD S d e = some true := by
  unfold eqD
  rw [h, h']
  exact congrArg some (SeqAt.eqv_refl p (toPy_lay h))
theorem o_eqS {S : Store} {d e : D} {p : PyData} (h : toPy S 60 d = some p) (h' : toPy S 60 e = some p) : oEq d e S = some (.bl true, S) := by
  unfold oEq
  rw [eqD_same h h']; rfl
theorem o_neS {S : Store} {d e : D} {p : PyData} (h : toPy S 60 d = some p) (h' : toPy S 60 e = some p) : oNe d e S = some (.bl false, S) := by
  unfold oNe
  rw [eqD_same h h']; rfl
theorem eqD_int {S : Store} {i j : Int} : eqD S (.int i) (.int j) = some (decide (i = j)) := by
  unfold eqD
  simp only [toPy]
  by_cases h : i = j
  · subst h
    rw [decide_eq_true rfl]
    exact congrArg some (SeqAt.eqv_refl (.int i) rfl)
  · rw [decide_eq_false h]
    simp [PyData.eqv, h]
theorem o_eqI {S : Store} {i j : Int} : oEq (.int i) (.int j) S = some (.bl (decide (i = j)), S) := by
  unfold oEq
  rw [eqD_int]; rfl
theorem o_neI {S : Store} {i j : Int} : oNe (.int i) (.int j) S = some (.bl (!decide (i = j)), S) := by
  unfold oNe
  rw [eqD_int]; rfl
theorem py_ints {S : Store} {k : Nat} : ∀ l : List Int, seqO ((l.map D.int).map (toPy S k)) = some (l.map PyData.int)
  | [] => rfl
  | i :: l => by
    have e : toPy S k (.int i) = some (.int i) := by cases k <;> rfl
    simp only [List.map_cons, e, seqO, py_ints l, Option.map_some]
theorem py_tup {S : Store} {k : Nat} (l : List Int) : toPy S (k + 1) (.tup (l.map D.int)) = some (.tuple (l.map PyData.int)) := by
  simp only [toPy, py_ints, Option.map_some]
theorem py_lst {S : Store} {k r : Nat} {l : List Int} (h : S[r]? = some (.lst (l.map D.int))) : toPy S (k + 1) (.ref r) = some (.list (l.map PyData.int)) := by
  simp only [toPy, h, py_ints, Option.map_some]
theorem py_tups {S : Store} {k : Nat} : ∀ ls : List (List Int), seqO ((ls.map fun l => D.tup (l.map D.int)).map (toPy S (k + 1))) = some (ls.map fun l => PyData.tuple (l.map PyData.int))
  | [] => rfl
  | l :: ls => by
    rw [List.map_cons, List.map_cons, py_tup]
    simp only [seqO, py_tups ls, Option.map_some, List.map_cons]
theorem py_tup2 {S : Store} {k : Nat} (ls : List (List Int)) : toPy S (k + 2) (.tup (ls.map fun l => D.tup (l.map D.int))) = some (.tuple (ls.map fun l => PyData.tuple (l.map PyData.int))) := by
  rw [toPy, py_tups]; rfl
theorem wipe_nil {env : En} : wipeE env [] = env := rfl
theorem wipe_cons {env : En} {v : Nat} {vs : List Nat} : wipeE env (v :: vs) = (wipeE env vs).set v none := rfl
theorem q_yes {env : En} {S : Store} : tYes1 env S = .ok true S := rfl
theorem q_rng2 {env : En} {S : Store} {r : DA} : iRng2 r env S = (r env S).bind fun xs S1 => match xs with
  | [.int i, .int j] => if -(2 ^ 62) ≤ i ∧ i < 2 ^ 62 ∧ -(2 ^ 62) ≤ j ∧ j < 2 ^ 62 then .ok (jR i (j - i).toNat) S1 else .bad
  | _ => .bad := rfl
theorem jL_at {S : Store} {r k : Nat} {ds : List D} (h : S[r]? = some (.lst ds)) : jL r k S = some ds[k]? := by simp only [jL, h]
end Z

namespace Z
open PySem PySem.Spec
abbrev lotL (a b c : Int) : O := .lst [.int a, .int b, .int c]
def LB (a c : Int) (m : Nat) : Prop := 0 ≤ a ∧ 0 ≤ c ∧ c ≤ m
def Draws (F : Fn) : Prop := ∀ (a b c : Int) (T : Store) (m r : Nat) (ds : List D), LB a c m → m ≤ 1000 → (lotL a b c :: T)[r]? = some (.lst ds) → r ≠ 0 → 0 < ds.length → ds.length ≤ 1000 →
  ∃ (a' b' c' : Int) (x : D), x ∈ ds ∧ LB a' c' (m + 1) ∧ F [.ref 0, .ref r] (lotL a b c :: T) = .ok x (lotL a' b' c' :: T)
theorem draws_of {F : Fn} (h : ∀ {S : Store} {i m r : Nat} {ds : List D} {Q : D → Store → Prop}, Lot S i m → S[r]? = some (.lst ds) → 0 < ds.length → ds.length ≤ 2 ^ 60 → r ≠ i → m ≤ 2 ^ 40 →
    (∀ (k : Nat) (x : D) S', ds[k]? = some x → Lot S' i (m + 1) → Kp i S S' → S.length = S'.length → Q x S') → WP (F [.ref i, .ref r] S) Q) : Draws F := fun a b c T m r ds hb hm hr h0 hp hl => by
  obtain ⟨b1, b2, b3⟩ := hb
  have L : Lot (lotL a b c :: T) 0 m := ⟨a, b, c, rfl, b1, b2, b3⟩
  have w := h (Q := fun x S' => x ∈ ds ∧ ∃ a' b' c', LB a' c' (m + 1) ∧ S' = lotL a' b' c' :: T) L hr hp (by omega) h0 (by omega) fun k x S' e L' kp el => ⟨List.mem_of_getElem? e, ?_⟩
  · obtain ⟨x, S', e, hx, a', b', c', hb', rfl⟩ := w
    exact ⟨a', b', c', x, hx, hb', e⟩
  · obtain ⟨a', b', c', e0, l1, l2, l3⟩ := L'
    refine ⟨a', b', c', ⟨l1, l2, l3⟩, ?_⟩
    apply List.ext_getElem?
    intro j
    cases j with
    | zero => exact e0
    | succ j =>
      rw [List.getElem?_cons_succ]
      cases q : T[j]? with
      | some o => exact kp (j + 1) o (by omega) (by rw [List.getElem?_cons_succ]; exact q)
      | none =>
        have h1 := List.getElem?_eq_none_iff.mp q
        rw [List.length_cons] at el
        exact List.getElem?_eq_none_iff.mpr (by omega)
section
variable {F : Fn} {env e' : En} {S S' T T' : Store} {a b c : Int} {m r j k : Nat} {s s' rest : DS} {Q : Fl → Store → Prop} {dl d W : DE} {v : D} {l : List D}
end
section
variable {F : Fn} {env : En} {S S' T : Store} {a b c : Int} {m i j k : Nat} {rest : DS} {Q : Fl → Store → Prop} {e1 e2 e3 : DE} {v : D}
theorem w_tup2 (q : WP (e1 env S) fun x S1 => WP (e2 env S1) fun y S2 => WP (rest ((env.set i (some x)).set j (some y)) S2) Q) : WP (sSeq (sAsg (dTup (dCons e1 (dCons e2 dNil))) (gTup 2 (gCons (gNm i) (gCons (gNm j) gNil)))) rest env S) Q := by
  rw [q_seq, WP_bind, q_asg, WP_bind, q_tup, WP_bind, q_cons, WP_bind]
  refine WP_mono q fun x S1 q1 => ?_
  rw [WP_bind, q_cons, WP_bind]
  refine WP_mono q1 fun y S2 q2 => ?_
  simp only [q_nil, Res.bind_ok, WP_ok, WP_bind, List.length_cons, List.length_nil]
  rw [if_pos (by decide)]
  simpa only [WP_ok, WP_bind, q_gtup, List.length_cons, List.length_nil, if_true, q_gcons, q_gnm, Res.bind_ok, q_gnil] using q2
theorem w_tup3 (q : WP (e1 env S) fun x S1 => WP (e2 env S1) fun y S2 => WP (e3 env S2) fun z S3 => WP (rest (((env.set i (some x)).set j (some y)).set k (some z)) S3) Q) :
    WP (sSeq (sAsg (dTup (dCons e1 (dCons e2 (dCons e3 dNil)))) (gTup 3 (gCons (gNm i) (gCons (gNm j) (gCons (gNm k) gNil))))) rest env S) Q := by
  rw [q_seq, WP_bind, q_asg, WP_bind, q_tup, WP_bind, q_cons, WP_bind]
  refine WP_mono q fun x S1 q1 => ?_
  rw [WP_bind, q_cons, WP_bind]
  refine WP_mono q1 fun y S2 q2 => ?_
  rw [WP_bind, q_cons, WP_bind]
  refine WP_mono q2 fun z S3 q3 => ?_
  simp only [q_nil, Res.bind_ok, WP_ok, WP_bind, List.length_cons, List.length_nil]
  rw [if_pos (by decide)]
  simpa only [WP_ok, WP_bind, q_gtup, List.length_cons, List.length_nil, if_true, q_gcons, q_gnm, Res.bind_ok, q_gnil] using q3
end
section
variable {F : Fn} {env : En} {S S' T : Store} {m n i : Nat} {rest A : DS} {Q : Fl → Store → Prop} {W : DE}
end
theorem Scr.past {S S2 S3 : Store} {x : D} {ns : List Int} {r : Nat} (h : Scr S x ns) (s : Sub S S2) (hr : S.length ≤ r) (k : Kp r S2 S3) : Scr S3 x ns := by
  rcases h with h | ⟨q, hq, e⟩
  · exact .inl h
  · have hl := (List.getElem?_eq_some_iff.mp e).1
    exact .inr ⟨q, hq, k q _ (by omega) (s q _ e)⟩
theorem wp_turns {most : Int} {S : Store} {x : D} {ns : List Int} {env : En} {Q : Itd → Store → Prop} (hx : Scr S x ns) (he : env[0]? = some (some x)) (h1 : 1 ≤ most) (h2 : most ≤ 100) (hQ : ∀ c : Nat, (c : Int) ≤ most → Q (jR 0 c) S) :
    WP (iRng1 (dCons (dCallB (b2 fMax2) (dCons (dC (.int 1)) (dCons (dCallB (b2 fMin2) (dCons (dC (.int most)) (dCons (dCallB (b1 fLen) (dCons (dVar 0) dNil)) dNil))) dNil))) dNil) env S) Q := by
  have hlenD : fLen x S = some (.int ((ns.map D.int).length : Int), S) := by
    rcases hx with rfl | ⟨r, rfl, e⟩
    · exact f_lenF
    · exact f_lenR e
  have e : ∃ v : Int, 1 ≤ v ∧ v ≤ most ∧ (if (if (((ns.map D.int).length : Nat) : Int) < most then (((ns.map D.int).length : Nat) : Int) else most) > 1 then (if (((ns.map D.int).length : Nat) : Int) < most then (((ns.map D.int).length : Nat) : Int) else most) else 1) = v :=
    ⟨_, by split <;> split <;> omega, by split <;> split <;> omega, rfl⟩
  obtain ⟨v, v1, v2, e⟩ := e
  simp only [q_rng1, q_cons, q_callB, q_c, q_var, he, q_nil, Res.bind_ok, q_b1, q_b2, hlenD, q_ofO, f_min, f_max, e]
  rw [if_pos (by omega)]
  exact WP_ok.mpr (hQ v.toNat (by omega))
end Z

namespace Z
open PySem PySem.Spec L2
def appO (r : Nat) (y : D) (S : Store) : Option Store := match S[r]? with
  | some (.lst acc) => if acc.length < sl then some (S.set r (.lst (acc ++ [y]))) else none
  | _ => none
def lcI (J : Itd) (g : DG) (t : DT) (b : DE) (env : En) (r : Nat) : Nat → Nat → Store → Res Unit
  | 0, _, _ => .bad
  | n + 1, j, S => match J j S with
    | none => .bad
    | some none => .ok () S
    | some (some d) => (g d env S).cut.bind fun env1 S1 => (t env1 S1).cut.bind fun k S2 => if k = true then (b env1 S2).cut.bind fun y S3 => match appO r y S3 with
        | some S4 => lcI J g t b env r n (j + 1) S4
        | none => .bad
      else lcI J g t b env r n (j + 1) S2
def lcO (J : Itd) (g : DG) (t : DT) (it1 : DI) (g1 : DG) (t1 : DT) (b : DE) (vs1 : List Nat) (env : En) (r : Nat) : Nat → Nat → Store → Res Unit
  | 0, _, _ => .bad
  | n + 1, i, S => match J i S with
    | none => .bad
    | some none => .ok () S
    | some (some d) => (g d env S).cut.bind fun env1 S1 => (t env1 S1).cut.bind fun k S2 => if k = true then (it1 env1 S2).cut.bind fun J1 S3 => (lcI J1 g1 t1 b (wipeE env1 vs1) r FUEL 0 S3).bind fun _ S4 => lcO J g t it1 g1 t1 b vs1 env r n (i + 1) S4
      else lcO J g t it1 g1 t1 b vs1 env r n (i + 1) S2
def dLc2 (it : DI) (g : DG) (t : DT) (it1 : DI) (g1 : DG) (t1 : DT) (b : DE) (own vs1 : List Nat) : DE := fun env S => (it env S).bind fun J S1 => (lcO J g t it1 g1 t1 b vs1 (wipeE env own) S1.length FUEL 0 (S1 ++ [.lst []])).bind fun _ S2 => .ok (.ref S1.length) S2
section
variable {C : Cp} {elt tg iter tg1 iter1 : Expr} {ifs ifs1 : List Expr} {scope : Scope} {own : List (Str × Nat)} {pos : Pos} {it it1 : DI} {g g1 : DG} {t t1 : DT} {b : DE} {vs vs1 : List Nat}
theorem rd_lc2 {W : WX} {σ : St} {H : Hp} {Q : VK} (hv : ∀ j ∈ vs, j ∈ own.map (·.2)) (h : rdE C.G W (dLc2 it g t it1 g1 t1 b (own.map (·.2)) vs1) σ H Q) :
    tLc2 (rdI C.G W it) (rdG C.G W0 vs g) (rdT C.G W0 t) (rdI C.G W0 it1) (rdG C.G W0 vs1 g1) (rdT C.G W0 t1) (rdE C.G W0 b) (own.map (·.2)) vs1 σ H Q := by
  obtain ⟨φ, S, env, R, E, P⟩ := h
  refine ⟨φ, S, env, R, E, P.bind.imp fun φ1 H1 S1 J n1 R1 P1 Jx hJ Da hD => ?_⟩
  have E1 : ERel C.G φ1 H1 (wipeE env (own.map (·.2))) (L2.wipe σ (own.map (·.2))) := (E.nxt n1).wipe _
  obtain ⟨R0, n0⟩ := R1.push (o := .lst []) hD ⟨[], upd_same, VRels.nil⟩
  have a0 : (φ1 ++ [Da])[S1.length]? = some Da := by rw [← R1.len]; simp
  refine ⟨fun i m H' => ∃ φ' S', Rel C.G φ' S' H' ∧ Nxt φ1 φ' H1 H' ∧ φ'[S1.length]? = some Da ∧
    Pst C.G (fun c p H' => W c p σ H') φ1 H1 (fun φ' H' _ x => ∀ v, VRel C.G φ' H' x v → Q v H') ((lcO J g t it1 g1 t1 b vs1 (wipeE env (own.map (·.2))) S1.length m i S').bind fun _ S2 => .ok (.ref S1.length) S2), ⟨FUEL, _, _, R0, n0, a0, P1⟩, ?_⟩
  rintro i m H2 ⟨φ2, S2, R2, n2, a2, P3⟩
  cases m with
  | zero => exact P3.elim
  | succ m =>
    unfold lcO at P3
    cases q : J i S2 with
    | none => rw [q] at P3; exact P3.elim
    | some o =>
      rw [q] at P3
      cases o with
      | none =>
        refine .inl ⟨hJ.stop i φ2 S2 H2 n2 R2 q, ?_⟩
        refine P3 φ2 H2 n2 R2 (.ref Da) ?_
        simp only [VRel]
        exact ⟨Da, rfl, a2⟩
      | some d =>
        obtain ⟨go, yld⟩ := hJ.go i φ2 S2 H2 d n2 R2 q
        refine .inr ⟨go, _, fun H' w => ⟨m, Nat.lt_succ_self m, w⟩, fun x H' y => ?_⟩
        obtain ⟨ny, Ry, ry⟩ := yld x H' y
        dsimp only at P3
        rw [Res.bind_assoc] at P3
        obtain ⟨env3, S3, e3, P4⟩ := P3.cut_bind
        refine ⟨φ2, S2, _, d, Ry, (E1.nxt n2).nxt ny, ry, ?_⟩
        rw [e3]
        intro φ3 H3 n3 R3 σ3 E3 l3 k3
        refine ⟨wipe_same (fun j hj => k3 j fun z => hj (hv j z)) (by rw [l3, L2.wipe_length]), φ3, S3, env3, R3, E3, ?_⟩
        rw [Res.bind_assoc] at P4
        obtain ⟨k, S4, e4, P5⟩ := P4.cut_bind
        rw [e4]
        intro φ4 H4 n4 R4
        have nn : Nxt φ1 φ4 H1 H4 := ((n2.trans ny).trans n3).trans n4
        have a4 : φ4[S1.length]? = some Da := n4.at_ (n3.at_ (ny.at_ a2))
        cases k with
        | false => exact iteF ⟨φ4, S4, R4, nn, a4, P5⟩
        | true =>
          refine iteT ⟨φ4, S4, env3, R4, E3.nxt n4, ?_⟩
          rw [if_pos rfl, Res.bind_assoc] at P5
          obtain ⟨J1, S5, e5, P6⟩ := P5.cut_bind
          rw [e5]
          intro φ5 H5 n5 R5 Jx1 hJ1
          have E5 : ERel C.G φ5 H5 (wipeE env3 vs1) (L2.wipe σ3 vs1) := ((E3.nxt n4).nxt n5).wipe _
          rw [Res.bind_assoc] at P6
          refine ⟨fun j k H' => ∃ φ' S', Rel C.G φ' S' H' ∧ Nxt φ1 φ' H1 H' ∧ Nxt φ5 φ' H5 H' ∧ φ'[S1.length]? = some Da ∧
            Pst C.G (fun c p H' => W c p σ H') φ1 H1 (fun φ' H' _ x => ∀ v, VRel C.G φ' H' x v → Q v H') ((lcI J1 g1 t1 b (wipeE env3 vs1) S1.length k j S').bind fun _ S4 => (lcO J g t it1 g1 t1 b vs1 (wipeE env (own.map (·.2))) S1.length m (i + 1) S4).bind fun _ S2 => .ok (.ref S1.length) S2),
            ⟨FUEL, φ5, S5, R5, nn.trans n5, Nxt.refl _ _, n5.at_ a4, P6⟩, ?_⟩
          rintro j k H6 ⟨φ6, S6, R6, n6, n56, a6, P7⟩
          cases k with
          | zero => exact P7.elim
          | succ k =>
            unfold lcI at P7
            cases q1 : J1 j S6 with
            | none => rw [q1] at P7; exact P7.elim
            | some o1 =>
              rw [q1] at P7
              cases o1 with
              | none => exact .inl ⟨hJ1.stop j φ6 S6 H6 n56 R6 q1, φ6, S6, R6, n6, a6, P7⟩
              | some d1 =>
                obtain ⟨go1, yld1⟩ := hJ1.go j φ6 S6 H6 d1 n56 R6 q1
                refine .inr ⟨go1, _, fun H' w => ⟨k, Nat.lt_succ_self k, w⟩, fun x1 H' y1 => ?_⟩
                obtain ⟨ny1, Ry1, ry1⟩ := yld1 x1 H' y1
                dsimp only at P7
                rw [Res.bind_assoc] at P7
                obtain ⟨env7, S7, e7, P8⟩ := P7.cut_bind
                refine ⟨φ6, S6, _, d1, Ry1, (E5.nxt n56).nxt ny1, ry1, ?_⟩
                rw [e7]
                intro φ7 H7 n7 R7 σ7 E7 l7 k7
                refine ⟨wipe_same (fun j hj => k7 j hj) (by rw [l7, L2.wipe_length]), φ7, S7, env7, R7, E7, ?_⟩
                rw [Res.bind_assoc] at P8
                obtain ⟨kk, S8, e8, P9⟩ := P8.cut_bind
                rw [e8]
                intro φ8 H8 n8 R8
                have mm : Nxt φ6 φ8 H6 H8 := (ny1.trans n7).trans n8
                cases kk with
                | false => exact iteF ⟨φ8, S8, R8, n6.trans mm, n56.trans mm, mm.at_ a6, P9⟩
                | true =>
                  refine iteT ⟨φ8, S8, env7, R8, E7.nxt n8, ?_⟩
                  rw [if_pos rfl, Res.bind_assoc] at P9
                  obtain ⟨y9, S9, e9, P10⟩ := P9.cut_bind
                  rw [e9]
                  intro φ9 H9 n9 R9 v9 r9
                  have a9 := n9.at_ (mm.at_ a6)
                  unfold appO at P10
                  split at P10
                  · rename_i S10 hS10
                    split at hS10
                    · rename_i acc hacc
                      split at hS10
                      · rename_i hlt
                        cases hS10
                        obtain ⟨us, hD9, rs⟩ := R9.at_ _ _ _ a9 hacc
                        have g9 : Grow H9 (upd H9 Da (.lst (us ++ [v9]))) := grow_lst hD9
                        obtain ⟨R10, n10⟩ := R9.set (o' := .lst (acc ++ [y9])) (u := .lst (us ++ [v9])) a9 hacc ⟨us ++ [v9], upd_same, (rs.append (VRels.cons r9 VRels.nil)).up (fun _ _ q => q) g9⟩
                        exact ⟨us, hD9, by rw [sl_eq, ← rs.length]; exact hlt, φ9, _, R10, ((n6.trans mm).trans n9).trans n10, ((n56.trans mm).trans n9).trans n10, a9, P10⟩
                      · cases hS10
                    · cases hS10
                  · exact P10.elim
theorem psx_setLc2 (i : Nat) {y : Str} {py spos : Pos} (nd : C.N.Nodup) (hy : C.N[i]? = some y) (hyl : C.sc.names.lookup y = some .local) (hi : PIx C tg iter it) (ok : blkC C.N C.sc scope own = true) (hg : PGx (C.blk scope) tg vs g) (ht : PTsx (C.blk scope) ifs t) (hi1 : PIx (C.blk scope) tg1 iter1 it1) (hg1 : PGx (C.blk scope) tg1 vs1 g1) (ht1 : PTsx (C.blk scope) ifs1 t1) (he : PEx (C.blk scope) elt b)
    (hv : ∀ j ∈ vs, j ∈ own.map (·.2)) (hv1 : ∀ j ∈ vs1, j ∈ own.map (·.2)) (hk : C.sc.kind = .function) (hl : (py.line == pos.line) = true) (ha : (scope.names.any fun (n, k) => n == y && (k == .local || k == .cell)) = false) (hs : ∀ env x, foldedSetIterable iter env x = pure x := by intro _ _; rfl) (hs1 : ∀ env x, foldedSetIterable iter1 env x = pure x := by intro _ _; rfl) :
    PSx C (.Assign [.Name y py] (.ListComp elt [⟨tg, iter, ifs, 0⟩, ⟨tg1, iter1, ifs1, 0⟩] scope pos) spos) (sAsg (dLc2 it g t it1 g1 t1 b (own.map (·.2)) vs1) (gNm i)) := fun X W h => by
  refine ps_imp (ps_setLc2 (i := i) h.calm (by rw [h.N]; exact nd) (by rw [h.N]; exact hy) (by rw [h.sc]; exact hyl) (sw_true (by rw [h.sc]; exact hk) (by rw [h.sc]; exact hyl) hl ha) (hi X W h) (by rw [h.N, h.sc]; exact blkOk_by ok) hv1 (fun s H cn cl fp => hg _ W0 (cxt_blk h)) (fun s H cn cl fp => ht _ W0 (cxt_blk h)) (fun s H cn cl fp => hi1 _ W0 (cxt_blk h)) (fun s H cn cl fp => hg1 _ W0 (cxt_blk h)) (fun s H cn cl fp => ht1 _ W0 (cxt_blk h)) (fun s H cn cl fp => he _ W0 (cxt_blk h)) (hs X.env) hs1) fun D σ H ⟨φ, S, env, R, E, P⟩ => ?_
  refine rd_lc2 hv ⟨φ, S, env, R, E, (pst_err P.bind).imp fun φ1 H1 S1 x n1 R1 P1 v1 r1 => ?_⟩
  exact (Pst.now P1 R1 : FlP C.G D φ1 H1 (.nx _)) _ ((E.nxt n1).set r1)
end
end Z

namespace Z
open PySem PySem.Spec PyProof.Rows L2 He
theorem Hyp.str {cs : List Ck} {fn : List Df} {cl : List Str} {tf : Tf} {pr : Program} {G : Glo} (h : Hyp cs fn cl tf pr G) (i : Nat) {x z : Str} (e : cs[i]? = some (ckFa (.str x z))) : ∃ t, G.mg x = some (.str z t) := by
  have c2 : (match PySem.W.nsIn G.K mainGlobals x with
    | some (some (.str j _)) => decide (j = z)
    | _ => false) = true := h.ck i e
  split at c2
  · rename_i j t q
    rw [of_decide_eq_true c2] at q
    exact ⟨t, h.mgns x _ q⟩
  · cases c2
theorem pex_gs {C : Cp} {x z : Str} {pos : Pos} (hg : okG C x = true) (hm : ∃ t, C.G.mg x = some (.str z t)) : PEx C (.Name x pos) (dC (.str z)) := by
  obtain ⟨h1, h2⟩ := ba hg
  obtain ⟨t, e⟩ := hm
  exact pex_glob (v := .str z) h1 e ⟨t, rfl⟩ (fun _ _ => by simp only [VRel]) (nb h2)
inductive FnVs (G : Glo) (k n : Nat) : List (Nat × Fn) → Prop
  | nil : FnVs G k n []
  | cons {c : Nat} {F : Fn} {x : Str} {j : Nat} {l : List (Nat × Fn)} (h : FnIs G j x n F) (hj : Nat.ble j k = true) (e : G.mg x = some (.ref (G.ad c))) (r : FnVs G k n l) : FnVs G k n ((c, F) :: l)
theorem FnVs.at_ {G : Glo} {k n : Nat} {l : List (Nat × Fn)} (h : FnVs G k n l) : ∀ {c : Nat} {F : Fn}, l.lookup c = some F → ∃ (x : Str) (j : Nat), FnIs G j x n F ∧ j ≤ k ∧ G.mg x = some (.ref (G.ad c)) := by
  induction h with
  | nil => intro c F e; cases e
  | @cons c' F' x j l h hj e r ih =>
    intro c F q
    rw [List.lookup_cons] at q
    split at q
    · rename_i hb
      have hc : c = c' := by simpa using hb
      subst hc
      cases q
      exact ⟨x, j, h, Nat.le_of_ble_eq_true hj, e⟩
    · exact ih q
end Z

namespace Z
open PySem PySem.Spec PyProof.Rows L2 He
section
variable {G : Glo} {φ0 φ : List Addr} {H0 H : Hp} {S : Store}
end
end Z

namespace Z
open PySem PySem.Spec PyProof.Rows L2 He
mutual
def mvD (n : Nat) : D → D
  | .ref i => .ref (n + i)
  | .tup ds => .tup (mvDs n ds)
  | .fls ds => .fls (mvDs n ds)
  | d => d
def mvDs (n : Nat) : List D → List D
  | [] => []
  | d :: ds => mvD n d :: mvDs n ds
end
def mvO (n : Nat) : O → O
  | .lst ds => .lst (mvDs n ds)
  | .dK l => .dK (l.map fun p => (p.1, mvD n p.2))
  | .dT l => .dT (l.map fun p => (p.1, mvD n p.2))
  | .dQ l => .dQ (l.map fun p => (p.1, mvD n p.2))
  | .qT l => .qT l
  | .ins c l => .ins c (l.map fun p => (p.1, mvD n p.2))
  | .slt c vs => .slt c (vs.map fun o => o.map (mvD n))
section
variable {G : Glo} {φ ψ : List Addr} {H H' : Hp}
mutual
theorem VRel.shift : ∀ {d : D} {v : V}, VRel G ψ H d v → VRel G (φ ++ ψ) H (mvD φ.length d) v
  | .non, _, h => by simpa only [mvD, VRel] using h
  | .bl _, _, h => by simpa only [mvD, VRel] using h
  | .int _, _, h => by simpa only [mvD, VRel] using h
  | .str _, _, h => by simpa only [mvD, VRel] using h
  | .st _, _, h => by simpa only [mvD, VRel] using h
  | .ty _, _, h => by simpa only [mvD, VRel] using h
  | .ref i, _, h => by
    simp only [mvD, VRel] at h ⊢
    obtain ⟨a, e, q⟩ := h
    exact ⟨a, e, by rw [List.getElem?_append_right (by omega), Nat.add_sub_cancel_left]; exact q⟩
  | .tup ds, _, h => by
    simp only [mvD, VRel] at h ⊢
    obtain ⟨a, vs, e, s, r⟩ := h
    exact ⟨a, vs, e, s, VRels.shift r⟩
  | .fls ds, _, h => by
    simp only [mvD, VRel] at h ⊢
    obtain ⟨a, vs, e, s, r⟩ := h
    exact ⟨a, vs, e, s, VRels.shift r⟩
theorem VRels.shift : ∀ {ds : List D} {vs : List V}, VRels G ψ H ds vs → VRels G (φ ++ ψ) H (mvDs φ.length ds) vs
  | [], _, h => by simpa only [mvDs, VRels] using h
  | d :: ds, _, h => by
    simp only [mvDs, VRels] at h ⊢
    obtain ⟨u, us, e, r, rs⟩ := h
    exact ⟨u, us, e, VRel.shift r, VRels.shift rs⟩
end
theorem KRel.shift {κ : Type} : ∀ {l : List (κ × D)} {m : List (κ × V)}, KRel G ψ H l m → KRel G (φ ++ ψ) H (l.map fun p => (p.1, mvD φ.length p.2)) m
  | [], _, h => h
  | (k, d) :: r, _, h => by
    obtain ⟨v, ks, e, q, t⟩ := h
    exact ⟨v, ks, e, q.shift, KRel.shift t⟩
theorem ORel.shift {a : Addr} {o : O} (h : ORel G ψ H a o) : ORel G (φ ++ ψ) H a (mvO φ.length o) := by
  cases o with
  | lst ds => obtain ⟨vs, e, r⟩ := h; exact ⟨vs, e, r.shift⟩
  | dK ds => obtain ⟨vs, e, r⟩ := h; exact ⟨vs, e, KRel.shift r⟩
  | dT ds => obtain ⟨od, kws, e, r⟩ := h; exact ⟨od, kws, e, by rw [r]; simp [List.map_map, Function.comp_def]⟩
  | dQ ds => obtain ⟨vs, e, r⟩ := h; exact ⟨vs, e, KRel.shift r⟩
  | qT ds => exact h
  | ins c fs => obtain ⟨dx, vs, e, r⟩ := h; exact ⟨dx, vs, e, KRel.shift r⟩
  | slt c vs =>
    obtain ⟨dx, ws, e, k, r⟩ := h
    refine ⟨dx, ws, e, k, fun i d q => ?_⟩
    rw [List.getElem?_map] at q
    cases hq : vs[i]? with
    | none => rw [hq] at q; cases q
    | some o =>
      cases o with
      | none => rw [hq] at q; cases q
      | some d0 =>
        rw [hq] at q
        cases q
        obtain ⟨v, e1, r1⟩ := r i d0 hq
        exact ⟨v, e1, r1.shift⟩
end
def optP (o : Option D) : Bool := match o with
  | some d => pure_ d
  | none => true
def objO (o : O) : Bool := match o with
  | .lst ds => pures ds
  | .slt _ vs => vs.all optP
  | _ => false
def packO : List D → Store → Nat → Option (List D × List Nat × List O)
  | [], _, _ => some ([], [], [])
  | d :: ys, S, k => match d with
    | .ref j => (match S[j]? with
      | some o => if objO o = true then (packO ys S (k + 1)).map fun z => (.ref k :: z.1, j :: z.2.1, o :: z.2.2) else none
      | none => none)
    | d => if pure_ d = true then (packO ys S k).map fun z => (d :: z.1, z.2.1, z.2.2) else none
theorem obj_rel {G : Glo} {φ φ' : List Addr} {H : Hp} {a : Addr} {o : O} (h : objO o = true) (r : ORel G φ H a o) : ORel G φ' H a o := by
  cases o with
  | lst ds => obtain ⟨vs, e, rs⟩ := r; exact ⟨vs, e, pures_rel h rs⟩
  | slt c vs =>
    obtain ⟨dx, ws, e, k, r⟩ := r
    refine ⟨dx, ws, e, k, fun i d q => ?_⟩
    obtain ⟨v, e1, r1⟩ := r i d q
    have hp : pure_ d = true := List.all_eq_true.mp h (some d) (List.mem_of_getElem? q)
    exact ⟨v, e1, pure_rel hp r1⟩
  | _ => cases h
structure Pk (φ : List Addr) (S : Store) (js : List Nat) (os : List O) (as : List Addr) : Prop where
  l1 : as.length = js.length
  l2 : os.length = js.length
  at_ : ∀ (t j : Nat), js[t]? = some j → ∃ (a : Addr) (o : O), as[t]? = some a ∧ os[t]? = some o ∧ φ[j]? = some a ∧ S[j]? = some o ∧ objO o = true
theorem pack_ok {G : Glo} {φ : List Addr} {S : Store} {H : Hp} (R : Rel G φ S H) : ∀ {ys : List D} {us : List V} {k : Nat} {ds : List D} {js : List Nat} {os : List O}, packO ys S k = some (ds, js, os) → VRels G φ H ys us →
    ∃ as, Pk φ S js os as ∧ ds.length = ys.length ∧ ∀ (pre : List Addr), pre.length = k → VRels G (pre ++ as) H ds us
  | [], us, k, ds, js, os, e, r => by
    cases e
    simp only [VRels] at r
    subst r
    exact ⟨[], ⟨rfl, rfl, fun t j h => by simp at h⟩, rfl, fun _ _ => VRels.nil⟩
  | d :: ys, us, k, ds, js, os, e, r => by
    simp only [VRels] at r
    obtain ⟨u, us', rfl, ru, rs⟩ := r
    have plain : ∀ {ds js os}, pure_ d = true → (packO ys S k).map (fun z => (d :: z.1, z.2.1, z.2.2)) = some (ds, js, os) → ∃ as, Pk φ S js os as ∧ ds.length = ys.length + 1 ∧ ∀ (pre : List Addr), pre.length = k → VRels G (pre ++ as) H ds (u :: us') := fun {ds js os} hp e => by
      cases q : packO ys S k with
      | none => rw [q] at e; cases e
      | some z =>
        rw [q] at e
        obtain ⟨z1, z2, z3⟩ := z
        cases e
        obtain ⟨as, P, L, V⟩ := pack_ok R q rs
        exact ⟨as, P, by rw [List.length_cons, L], fun pre hl => VRels.cons (pure_rel hp ru) (V pre hl)⟩
    unfold packO at e
    cases d with
    | ref j =>
      dsimp only at e
      cases q0 : S[j]? with
      | none => rw [q0] at e; cases e
      | some o =>
        rw [q0] at e
        dsimp only at e
        by_cases ho : objO o = true
        · rw [if_pos ho] at e
          cases q : packO ys S (k + 1) with
          | none => rw [q] at e; cases e
          | some z =>
            rw [q] at e
            obtain ⟨z1, z2, z3⟩ := z
            cases e
            obtain ⟨as, P, L, V⟩ := pack_ok R q rs
            simp only [VRel] at ru
            obtain ⟨a, rfl, ea⟩ := ru
            refine ⟨a :: as, ⟨by rw [List.length_cons, List.length_cons, P.l1], by rw [List.length_cons, List.length_cons, P.l2], fun t => ?_⟩, by rw [List.length_cons, List.length_cons, L], fun pre hl => ?_⟩
            · cases t with
              | zero => intro j' h; cases h; exact ⟨a, o, rfl, rfl, ea, q0, ho⟩
              | succ t => intro j' h; exact P.at_ t j' (by simpa using h)
            · have e2 : pre ++ a :: as = (pre ++ [a]) ++ as := by simp
              rw [e2]
              refine VRels.cons ?_ (V (pre ++ [a]) (by simp [hl]))
              simp only [VRel]
              exact ⟨a, rfl, by rw [← e2, List.getElem?_append_right (by omega), hl, Nat.sub_self]; rfl⟩
        · rw [if_neg ho] at e; cases e
    | _ => dsimp only at e; split at e <;> first | exact plain (by assumption) e | cases e
end Z

namespace Z
open PySem PySem.Spec PyProof.Rows L2 He
end Z

namespace Z
open PySem PySem.Spec PyProof.Rows L2 He
def pickE (env : En) : List Nat → Option (List D)
  | [] => some []
  | j :: vs => match env[j]? with
    | some (some d) => (pickE env vs).map (d :: ·)
    | _ => none
def putE : List Nat → List D → En → En
  | j :: vs, d :: ds, env => putE vs ds (env.set j (some d))
  | _, _, env => env
section
variable {G : Glo} {φ ψ : List Addr} {H H' : Hp}
theorem pickE_rel {env : En} {σ : St} (E : ERel G φ H env σ) : ∀ {vs : List Nat} {ys : List D}, pickE env vs = some ys → ∃ us, VRels G φ H ys us ∧ us.length = vs.length ∧ ∀ (t j : Nat), vs[t]? = some j → ∃ u, us[t]? = some u ∧ σ[j]? = some (some u)
  | [], ys, e => by cases e; exact ⟨[], VRels.nil, rfl, fun t j h => by simp at h⟩
  | j :: vs, ys, e => by
    unfold pickE at e
    split at e
    · rename_i d hd
      cases q : pickE env vs with
      | none => rw [q] at e; cases e
      | some zs =>
        rw [q] at e
        cases e
        obtain ⟨us, r, l, k⟩ := pickE_rel E q
        obtain ⟨u, e1, r1⟩ := E.2 j d hd
        refine ⟨u :: us, VRels.cons r1 r, by simp [l], fun t => ?_⟩
        cases t with
        | zero => intro j' h; cases h; exact ⟨u, rfl, e1⟩
        | succ t => intro j' h; exact k t j' (by simpa using h)
    · cases e
theorem putE_rel {σ : St} : ∀ {vs : List Nat} {ds : List D} {us : List V} {env : En}, VRels G φ H ds us → us.length = vs.length → (∀ (t j : Nat), vs[t]? = some j → ∃ u, us[t]? = some u ∧ σ[j]? = some (some u)) → ERel G φ H env σ → ERel G φ H (putE vs ds env) σ
  | [], ds, us, env, r, l, k, E => by
    cases ds <;> exact E
  | j :: vs, ds, us, env, r, l, k, E => by
    cases ds with
    | nil => exact E
    | cons d ds =>
      simp only [VRels] at r
      obtain ⟨u, us', rfl, r1, rs⟩ := r
      obtain ⟨u', h1, h2⟩ := k 0 j rfl
      cases h1
      unfold putE
      refine putE_rel rs (by simpa using l) (fun t j' h => by simpa using k (t + 1) j' (by simpa using h)) ?_
      have := E.set (i := j) r1
      have e : σ.set j (some u) = σ := by
        refine List.ext_getElem? fun t => ?_
        by_cases ht : j = t
        · subst ht
          rw [List.getElem?_set_self (List.getElem?_eq_some_iff.mp h2).1, h2]
        · rw [List.getElem?_set_ne ht]
      rwa [e] at this
theorem Pk.rel0 {S : Store} {js : List Nat} {os : List O} {as : List Addr} (R : Rel G φ S H) (P : Pk φ S js os as) (nd : js.Nodup) : Rel G as os H := by
  have inj : ∀ {j j' : Nat} {b : Addr}, φ[j]? = some b → φ[j']? = some b → j = j' := fun h h' => (List.getElem?_inj (List.getElem?_eq_some_iff.mp h).1 R.nd).mp (h.trans h'.symm)
  refine ⟨by rw [P.l1, P.l2], ?_, fun t b u h1 h2 => ?_, R.tabs⟩
  · refine List.pairwise_iff_getElem.mpr fun t t' ht ht' hlt e => ?_
    have h1 : t < js.length := by rw [← P.l1]; exact ht
    have h2 : t' < js.length := by rw [← P.l1]; exact ht'
    obtain ⟨a1, _, q1, _, q3, _⟩ := P.at_ t _ (List.getElem?_eq_getElem h1)
    obtain ⟨a2, _, r1, _, r3, _⟩ := P.at_ t' _ (List.getElem?_eq_getElem h2)
    rw [List.getElem?_eq_getElem ht] at q1
    rw [List.getElem?_eq_getElem ht', ← e] at r1
    cases q1
    cases r1
    exact List.pairwise_iff_getElem.mp nd t t' h1 h2 hlt (inj q3 r3)
  · have ht : t < js.length := by rw [← P.l1]; exact (List.getElem?_eq_some_iff.mp h1).1
    obtain ⟨a', o', q1, q2, q3, q4, q5⟩ := P.at_ t _ (List.getElem?_eq_getElem ht)
    rw [h1] at q1
    rw [h2] at q2
    cases q1
    cases q2
    exact obj_rel q5 (R.at_ _ _ _ q3 q4)
theorem Pk.back0 {S S' : Store} {js : List Nat} {os : List O} {as : List Addr} (R : Rel G φ S H) (P : Pk φ S js os as) (n : Nxt as ψ H H') (R' : Rel G ψ S' H') (ho : S'.take os.length = os) : Rel G φ S H' ∧ Nxt φ φ H H' := by
  have g := n.grow
  have has : ∀ b ∈ as, b ∈ φ := fun b hb => by
    obtain ⟨t, ht, et⟩ := List.mem_iff_getElem.mp hb
    have htj : t < js.length := by rw [← P.l1]; exact ht
    obtain ⟨a', o', q1, _, q3, _⟩ := P.at_ t _ (List.getElem?_eq_getElem htj)
    rw [List.getElem?_eq_getElem ht, et] at q1
    cases q1
    exact List.mem_of_getElem? q3
  refine ⟨⟨R.len, R.nd, fun j b u h1 h2 => ?_, R'.tabs⟩, ⟨⟨[], by simp, fun _ z => nomatch z⟩, g, fun b o e nb st => n.frame b o e (fun z => nb (has b z)) st, n.there⟩⟩
  have h := R.at_ j b u h1 h2
  by_cases hb : b ∈ as
  · obtain ⟨t, ht, et⟩ := List.mem_iff_getElem.mp hb
    have htj : t < js.length := by rw [← P.l1]; exact ht
    have hto : t < os.length := by rw [P.l2]; exact htj
    obtain ⟨a', o', q1, q2, q3, q4, q5⟩ := P.at_ t _ (List.getElem?_eq_getElem htj)
    rw [List.getElem?_eq_getElem ht, et] at q1
    cases q1
    have ej : j = js[t] := (List.getElem?_inj (List.getElem?_eq_some_iff.mp h1).1 R.nd).mp (h1.trans q3.symm)
    rw [← ej, h2] at q4
    cases q4
    have hb1 : ψ[t]? = some b := n.at_ (i := t) (by rw [List.getElem?_eq_getElem ht, et])
    have hs : S'[t]? = some u := by
      rw [← ho, List.getElem?_take, if_pos hto] at q2
      exact q2
    exact obj_rel q5 (R'.at_ _ b u hb1 hs)
  · obtain ⟨w, hw, mu, nx⟩ := h.mut_
    have st : Stdy w := by cases w <;> first | trivial | exact absurd mu (by intro z; exact z) | exact nx
    refine h.up (fun _ _ z => z) g ?_
    rw [hw]
    exact n.frame b w hw hb st
end
open Classical in
noncomputable def sIso (vs : List Nat) (s : DS) : DS := fun env S => match pickE env vs with
  | some ys => (match packO ys S 0 with
    | some (ds, js, os) => if js.Nodup then (match s (putE vs ds (env.map fun _ => none)) os with
      | .ok (.rt v) S2 => if pure_ v = true ∧ S2.take os.length = os then .ok (.rt v) S else .bad
      | _ => .bad) else .bad
    | none => .bad)
  | none => .bad
theorem pssx_iso {C : Cp} {sts : List Stmt} {s : DS} (vs : List Nat) (h : PSsx C sts s) : PSsx C sts (sIso vs s) := fun X W hx => pss_imp (h X W hx) fun D σ H ⟨φ, S, env, R, E, P⟩ => by
  unfold sIso at P
  split at P
  · rename_i ys ey
    split at P
    · rename_i ds js os ep
      split at P
      · rename_i nd
        obtain ⟨us, r, l, k⟩ := pickE_rel E ey
        obtain ⟨as, Pk0, L, V⟩ := pack_ok R ep r
        refine ⟨as, os, _, Pk0.rel0 R nd, putE_rel (env := env.map fun _ => (none : Option Z.D)) (V [] rfl) l k ⟨(List.length_map _).trans E.1, fun i x q => ?_⟩, ?_⟩
        · rw [List.getElem?_map] at q
          cases hq : env[i]? <;> rw [hq] at q <;> cases q
        · split at P
          · rename_i v S2 eF
            split at P
            · rename_i hc
              obtain ⟨hp, ho⟩ := hc
              rw [eF]
              intro φ1 H1 n1 R1
              obtain ⟨R2, n2⟩ := Pk0.back0 R n1 R1 ho
              have P2 := P φ H1 n2 R2
              exact fun w r1 => P2 w (pure_rel hp r1)
            · exact P.elim
          · exact P.elim
      · exact P.elim
    · exact P.elim
  · exact P.elim
theorem w_iso {vs : List Nat} {s : DS} {env : En} {S S2 : Store} {ys ds : List D} {js : List Nat} {os : List O} {v : D} {Q : Fl → Store → Prop} (h1 : pickE env vs = some ys) (h2 : packO ys S 0 = some (ds, js, os)) (nd : js.Nodup) (h3 : s (putE vs ds (env.map fun _ => none)) os = .ok (.rt v) S2) (hp : pure_ v = true) (ho : S2.take os.length = os) (q : Q (.rt v) S) : WP (sIso vs s env S) Q := by
  refine ⟨.rt v, S, ?_, q⟩
  unfold sIso
  simp only [h1, h2]
  rw [if_pos nd, h3]
  dsimp only
  rw [if_pos ⟨hp, ho⟩]
end Z

namespace Z
open PySem PySem.Spec
end Z

namespace Z
open PySem PySem.Spec PyProof.Rows L2 He GenW
abbrev GD := List D → En → Store → Res (Fl × List D)
section
variable {C : Cp} {st : Stmt} {sts : List Stmt} {s : DS} {g g' : GD} {e : Expr} {d : DE} {pos yp : Pos}
end
abbrev GFn1 := List D → Store → Res (List D)
def spG (G : Glo) (n : Nat) (F : GFn1) : SpG := fun vs H Q E => ∃ φ S ds, Rel G φ S H ∧ VRels G φ H ds vs ∧ ds.length = n ∧ Pst G E φ H (fun φ' H' _ r => ∀ ys, VRels G φ' H' r ys → Q ys H') (F ds S)
structure GnIs (G : Glo) (k : Nat) (x : Str) (n : Nat) (F : GFn1) : Prop where
  ex : ∃ (f : Addr) (fd : FuncData) (ps : List Str), ps.length = n ∧ GFn G.P G.w G.K G.mg G.base k f fd ps (spG G n F) ∧ G.mg x = some (.ref f) ∧ PySem.W.keepIn G.K (.ref f) = true ∧ Binds G.K fd ps []
section
variable {G : Glo} {x qual : Str} {params : Arguments} {body : List Stmt} {scope : Scope} {dvs : List V} {kws : List (Str × V)} {f : Addr} {fd : FuncData} {N ps : List Str} {k n : Nat} {b : GD}
end
section
variable {cs : List Ck} {fn : List Df} {cl : List Str} {tf : Tf} {pr : Program} {G : Glo} {i j k n : Nat} {d : Df} {y : Str} {N ps : List Str} {b : GD}
end
section
variable {C : Cp} {e : Expr} {es : List Expr} {dr : DA} {x : Str} {p pos p1 pos1 : Pos} {k n : Nat} {F : GFn1} {ns : List Nat}
end
end Z

namespace Z
open PySem PySem.Spec PyProof.Rows L2 He
section
variable {X : Cx} {a b c d : Expr} {ta tb tc td : TE} {pos : Pos}
end
section
variable {C : Cp} {a b c d : Expr} {da db dc dd : DE} {pos : Pos}
end
end Z

namespace PySem
open PySem.Spec
section
variable {prog : Program} {w : World} {A : Around} {E : Value → Shared → Prop} {s : Shared} {l : Addr} {xs : Array (Int × Tok)}
end
end PySem
namespace Z
open PySem PySem.Spec PyProof.Rows L2 He
section
variable {prog : Program} {w : World} {A : Around} {E : Value → Shared → Prop} {s : Shared} {l : Addr} {its : List Value} {ns : List Int} {Q : Value → Shared → Prop}
end
end Z

namespace Z
open PySem PySem.Spec PyProof.Rows L2 He
section
variable {X A B : Type} {o : Option X}
theorem opt2 {f : X → A} {g : X → B} {a : A} {b : B} (h1 : o.map f = some a) (h2 : o.map g = some b) : o.map (fun x => (f x, g x)) = some (a, b) := by
  cases o with
  | none => cases h1
  | some x => cases h1; cases h2; rfl
theorem opt2L {f : X → A} {g : X → B} {a : A} {b : B} (h : o.map (fun x => (f x, g x)) = some (a, b)) : o.map f = some a := by
  cases o with
  | none => cases h
  | some x => cases h; rfl
theorem opt2R {f : X → A} {g : X → B} {a : A} {b : B} (h : o.map (fun x => (f x, g x)) = some (a, b)) : o.map g = some b := by
  cases o with
  | none => cases h
  | some x => cases h; rfl
theorem optAnd {f g : X → Bool} (h1 : o.map f = some true) (h2 : o.map g = some true) : o.map (fun x => f x && g x) = some true := by
  cases o with
  | none => cases h1
  | some x =>
    have e1 := Option.some.inj h1
    have e2 := Option.some.inj h2
    show some (f x && g x) = some true
    rw [e1, e2]
    rfl
def obA (n : Nat) (cs : List Ck) (g : Addr → Option Obj) : Bool := cs.all fun c => c (frT g (asZ g n))
def obF (n : Nat) (fn : List Df) (g : Addr → Option Obj) : Bool := fn.all fun d => d.ok (frT g (asZ g n))
def obV (n : Nat) (fn : List Df) (g : Addr → Option Obj) : List FnW := fn.map fun d => fnA (frT g (asZ g n)) (d.ad (frT g (asZ g n)))
def obT (n : Nat) (tf : List (PySem.W.Frag → Addr)) (g : Addr → Option Obj) : Bool := tabsZ g tf (frT g (asZ g n))
theorem obs_split (g : X → Addr → Option Obj) (n : Nat) (cs : List Ck) (fn : List Df) (tf : List (PySem.W.Frag → Addr)) (m : Nat)
    (h1 : o.map (fun x => obA n (cs.take m) (g x)) = some true) (h2 : o.map (fun x => obA n (cs.drop m) (g x)) = some true)
    (h3 : o.map (fun x => obF n fn (g x)) = some true)
    (h4 : o.map (fun x => (obV n fn (g x), obT n tf (g x))) = some (fn.map Df.val, true)) :
    o.map (fun x => obsZG n cs fn tf (g x)) = some (valZ fn, true) := by
  have h5 : o.map (fun x => obA n cs (g x)) = some true := by
    have e := optAnd h1 h2
    rw [← e]
    refine congrArg (fun f => Option.map f o) (funext fun x => ?_)
    unfold obA
    rw [← List.all_append, List.take_append_drop]
  exact opt2 (opt2 (optAnd h5 h3) (opt2L h4)) (opt2R h4)
theorem run_split {A1 A2 : Type} {f1 : X → A1} {f2 : X → A2} {a1 : A1} {a2 : A2} (g : X → Addr → Option Obj) (n : Nat) (cs : List Ck) (fn : List Df) (tf : List (PySem.W.Frag → Addr)) (m : Nat)
    (h0 : o.map (fun x => (f1 x, f2 x)) = some (a1, a2))
    (h1 : o.map (fun x => obA n (cs.take m) (g x)) = some true) (h2 : o.map (fun x => obA n (cs.drop m) (g x)) = some true)
    (h3 : o.map (fun x => obF n fn (g x)) = some true)
    (h4 : o.map (fun x => (obV n fn (g x), obT n tf (g x))) = some (fn.map Df.val, true)) :
    o.map (fun x => (f1 x, f2 x, obsZG n cs fn tf (g x))) = some (a1, a2, (valZ fn, true)) :=
  opt2 (opt2L h0) (opt2 (opt2R h0) (obs_split g n cs fn tf m h1 h2 h3 h4))
end
end Z

noncomputable section
namespace Z
open PySem PySem.W PySem.Calls PySem.Spec PyProof.Rows L2 He HandSHeadRun
end Z

namespace Z
open PySem PySem.Spec PyProof.Rows L2 He
def divNOk (_ j : Int) : Bool := !decide (j = 0) && decide (j.natAbs.log2 < 9000)
def oDivN : Op2 := oInt divNOk fun i j => .int (i.fdiv j)
def CDivNW (_ j : Int) : Prop := j ≠ 0 ∧ j.natAbs.log2 < 9000
theorem op_fdivNW {X : Cx} : OpR X (binaryOp .FloorDiv) (rI CDivNW fun i j => .int (i.fdiv j)) := opI fun _ _ _ _ _ _ _ hc q => floordiv_int hc.1 q (.inl (PyProof.noPylong_of_log2 hc.2))
section
variable {C : Cp}
theorem opx_divN : OpRx C (binaryOp .FloorDiv) oDivN := opx_int (fun _ _ _ => op_fdivNW) (fun i j h => by
  obtain ⟨a, b⟩ := Bool.and_eq_true_iff.mp h
  refine ⟨fun e => ?_, of_decide_eq_true b⟩
  rw [e] at a
  cases a) fun _ _ _ _ => by simp only [VRel]
theorem opx_divX : OpRx C (binaryOp .FloorDiv) (orO oDivI oDivN) := OpRx.or opx_divI opx_divN
end
end Z
namespace Z
end Z

namespace Z
open PySem PySem.Spec PyProof.Rows L2 He
end Z
namespace Z
open PySem PySem.Spec PyProof.Rows L2 He
end Z

namespace Z
open PySem PySem.Spec
end Z

namespace Z
open PySem PySem.Spec
theorem wp_whileGo {t : DT} {b : DS} {Q : Fl → Store → Prop} (I : Nat → En → Store → Prop) (hs : ∀ m env S, I m env S → WP (t env S) fun c S1 => if c = true then WP (b env S1) fun fl S2 => match fl with
      | .nx e' => ∃ m', m' < m ∧ I m' e' S2
      | .ct e' => ∃ m', m' < m ∧ I m' e' S2
      | .bk e' => Q (.nx e') S2
      | .rt d => Q (.rt d) S2
    else Q (.nx env) S1) : ∀ (f m : Nat) (env : En) (S : Store), m < f → I m env S → WP (whileGo t b f env S) Q
  | 0, m, env, S, h, _ => by omega
  | f + 1, m, env, S, h, hI => by
    unfold whileGo
    rw [WP_bind]
    refine WP_mono (hs m env S hI) fun c S1 w => ?_
    by_cases hc : c = true
    · rw [if_pos hc] at w ⊢
      rw [WP_bind]
      refine WP_mono w fun fl S2 w2 => ?_
      cases fl with
      | nx e' =>
        obtain ⟨m', hm, hI'⟩ := w2
        exact wp_whileGo I hs f m' e' S2 (by omega) hI'
      | ct e' =>
        obtain ⟨m', hm, hI'⟩ := w2
        exact wp_whileGo I hs f m' e' S2 (by omega) hI'
      | bk e' => exact WP_ok.mpr w2
      | rt d => exact WP_ok.mpr w2
    · rw [if_neg hc] at w ⊢
      exact WP_ok.mpr w
theorem wp_while {t : DT} {b : DS} {Q : Fl → Store → Prop} {env : En} {S : Store} (I : Nat → En → Store → Prop) (m : Nat) (hm : m ≤ 2 ^ 60) (h0 : I m env S) (hs : ∀ m env S, I m env S → WP (t env S) fun c S1 => if c = true then WP (b env S1) fun fl S2 => match fl with
      | .nx e' => ∃ m', m' < m ∧ I m' e' S2
      | .ct e' => ∃ m', m' < m ∧ I m' e' S2
      | .bk e' => Q (.nx e') S2
      | .rt d => Q (.rt d) S2
    else Q (.nx env) S1) : WP (whileGo t b FUEL env S) Q := wp_whileGo I hs FUEL m env S (by unfold FUEL; omega) h0
theorem sl_big {k : Nat} (h : k ≤ 1000) : k < sl := by
  have : sl = 16777216 := rfl
  omega
theorem o_eqP {S : Store} {d e : D} {p q : PyData} (h : toPy S 60 d = some p) (h' : toPy S 60 e = some q) : oEq d e S = some (.bl (PyData.eqv p q), S) := by
  unfold oEq eqD
  rw [h, h']; rfl
theorem o_neP {S : Store} {d e : D} {p q : PyData} (h : toPy S 60 d = some p) (h' : toPy S 60 e = some q) : oNe d e S = some (.bl (!PyData.eqv p q), S) := by
  unfold oNe eqD
  rw [h, h']; rfl
theorem all_true {S : Store} {r : Nat} {ds : List D} (h : S[r]? = some (.lst ds)) (hd : ∀ d ∈ ds, d = .bl true) : fAll (.ref r) S = some (.bl true, S) := by
  unfold fAll
  rw [itemsLR h]
  have e : ∀ l : List D, (∀ d ∈ l, d = .bl true) → blsOf l = some (l.map fun _ => true) := by
    intro l
    induction l with
    | nil => intro _; rfl
    | cons a l ih =>
      intro hl
      rw [hl a List.mem_cons_self]
      show (blsOf l).map (true :: ·) = _
      rw [ih fun d hd => hl d (List.mem_cons_of_mem _ hd)]; rfl
  rw [Option.bind_some, e ds hd]
  simp
theorem z1 : ((0 + 1 : Nat) ≤ sl) = True := eq_true (by decide)
theorem z2 : ((0 + 1 + 1 : Nat) ≤ sl) = True := eq_true (by decide)
theorem z3 : ((0 + 1 + 1 + 1 : Nat) ≤ sl) = True := eq_true (by decide)
theorem z4 : ((0 + 1 + 1 + 1 + 1 : Nat) ≤ sl) = True := eq_true (by decide)
theorem q_meS {f : Mf} {o a : DE} {env : En} {S : Store} : dMethS f o a env S = (o env S).bind fun x S1 => if isS x = true then (a env S1).bind fun y S2 => ofO (f x [y] S2) else .bad := rfl
end Z

namespace Z
def cf (l : List Int) (n : Nat) : Int := l.getD n 0
theorem cf_nil (n : Nat) : cf [] n = 0 := rfl
theorem cf_zero (a : Int) (l : List Int) : cf (a :: l) 0 = a := rfl
theorem cf_succ (a : Int) (l : List Int) (n : Nat) : cf (a :: l) (n + 1) = cf l n := rfl
theorem cf_get {l : List Int} {n : Nat} (h : n < l.length) : cf l n = l[n] := by
  unfold cf
  rw [List.getD_eq_getElem?_getD, List.getElem?_eq_getElem h]; rfl
theorem cf_out {l : List Int} {n : Nat} (h : l.length ≤ n) : cf l n = 0 := by
  unfold cf
  rw [List.getD_eq_getElem?_getD, List.getElem?_eq_none h]; rfl
def tr : List Int → List Int
  | [] => []
  | a :: l => if a = 0 ∧ tr l = [] then [] else a :: tr l
theorem cf_tr : ∀ (l : List Int) (n : Nat), cf (tr l) n = cf l n
  | [], _ => rfl
  | a :: l, n => by
    unfold tr
    split
    · rename_i h
      cases n with
      | zero => rw [cf_nil, cf_zero, h.1]
      | succ n => rw [cf_nil, cf_succ, ← cf_tr l n, h.2, cf_nil]
    · cases n with
      | zero => rfl
      | succ n => rw [cf_succ, cf_succ, cf_tr l n]
theorem tr_mem {l : List Int} {x : Int} (h : x ∈ tr l) : x ∈ l := by
  induction l with
  | nil => exact h
  | cons a l ih =>
    unfold tr at h
    split at h
    · cases h
    · rcases List.mem_cons.mp h with z | z
      · rw [z]; exact List.mem_cons_self
      · exact List.mem_cons_of_mem _ (ih z)
def cv : List Int → (Nat → Int) → Nat → Int
  | [], _, _ => 0
  | a :: p, g, 0 => a * g 0
  | a :: p, g, n + 1 => a * g (n + 1) + cv p g n
theorem cv_z (a : Int) (p : List Int) (g : Nat → Int) : cv (a :: p) g 0 = a * g 0 := rfl
theorem cv_s (a : Int) (p : List Int) (g : Nat → Int) (n : Nat) : cv (a :: p) g (n + 1) = a * g (n + 1) + cv p g n := rfl
def adl : List Int → List Int → List Int
  | [], m => m
  | l, [] => l
  | a :: l, b :: m => (a + b) :: adl l m
theorem cf_adl : ∀ (l m : List Int) (n : Nat), cf (adl l m) n = cf l n + cf m n
  | [], m, n => by simp [adl, cf_nil]
  | a :: l, [], n => by simp [adl, cf_nil]
  | a :: l, b :: m, 0 => rfl
  | a :: l, b :: m, n + 1 => by
    rw [adl, cf_succ, cf_succ, cf_succ, cf_adl]
theorem cf_smul (c : Int) : ∀ (l : List Int) (n : Nat), cf (l.map (c * ·)) n = c * cf l n
  | [], n => by simp [cf_nil]
  | a :: l, 0 => rfl
  | a :: l, n + 1 => by rw [List.map_cons, cf_succ, cf_succ, cf_smul c l n]
def mll : List Int → List Int → List Int
  | [], _ => []
  | a :: p, q => adl (q.map (a * ·)) (0 :: mll p q)
theorem cf_mll : ∀ (p q : List Int) (n : Nat), cf (mll p q) n = cv p (cf q) n
  | [], q, n => rfl
  | a :: p, q, 0 => by rw [mll, cf_adl, cf_smul, cf_zero, Int.add_zero, cv_z]
  | a :: p, q, n + 1 => by rw [mll, cf_adl, cf_smul, cf_succ, cf_mll p q n, cv_s]
def PM (p q : List Int) : List Int := tr (mll p q)
theorem cf_PM (p q : List Int) (n : Nat) : cf (PM p q) n = cv p (cf q) n := by
  unfold PM; rw [cf_tr, cf_mll]
def PW (p : List Int) : Nat → List Int
  | 0 => [1]
  | k + 1 => PM (PW p k) p
def Bn (B : Nat) (l : List Int) : Prop := ∀ x ∈ l, x.natAbs ≤ B
theorem Bn.tr {B : Nat} {l : List Int} (h : Bn B l) : Bn B (tr l) := fun x hx => h x (tr_mem hx)
theorem Bn.cf {B : Nat} {l : List Int} (h : Bn B l) (n : Nat) : (cf l n).natAbs ≤ B := by
  by_cases hn : n < l.length
  · rw [cf_get hn]; exact h _ (List.getElem_mem hn)
  · rw [cf_out (by omega)]; exact Nat.zero_le _
theorem cv_bd {A B : Nat} : ∀ {p : List Int} {g : Nat → Int} (n : Nat), Bn A p → (∀ n, (g n).natAbs ≤ B) → (cv p g n).natAbs ≤ p.length * (A * B)
  | [], _, _, _, _ => Nat.zero_le _
  | a :: p, g, 0, h, hg => by
    rw [cv_z, Int.natAbs_mul, List.length_cons, Nat.succ_mul]
    have := Nat.mul_le_mul (h a List.mem_cons_self) (hg 0)
    omega
  | a :: p, g, n + 1, h, hg => by
    have h1 : (a * g (n + 1)).natAbs ≤ A * B := by
      rw [Int.natAbs_mul]; exact Nat.mul_le_mul (h a List.mem_cons_self) (hg _)
    have h2 := cv_bd (p := p) n (fun x hx => h x (List.mem_cons_of_mem _ hx)) hg
    rw [cv_s, List.length_cons, Nat.succ_mul]
    have := Int.natAbs_add_le (a * g (n + 1)) (cv p g n)
    omega
theorem cv_bd2 {A B : Nat} {p q : List Int} (n : Nat) (hp : Bn A p) (hq : Bn B q) : (cv p (cf q) n).natAbs ≤ p.length * (A * B) := cv_bd n hp hq.cf
theorem Bn.ofcf {B : Nat} {l : List Int} (h : ∀ n, (Z.cf l n).natAbs ≤ B) : Bn B l := fun x hx => by
  obtain ⟨n, hn, rfl⟩ := List.mem_iff_getElem.mp hx
  rw [← cf_get hn]; exact h n
theorem Bn.PM {A B : Nat} {p q : List Int} (hp : Bn A p) (hq : Bn B q) : Bn (p.length * (A * B)) (PM p q) := .ofcf fun n => by
  rw [cf_PM]; exact cv_bd2 n hp hq
end Z

namespace Z
open PySem PySem.Spec
def iL (l : List Int) : List D := l.map D.int
theorem iL_len (l : List Int) : (iL l).length = l.length := by unfold iL; rw [List.length_map]
theorem iL_at {l : List Int} {k : Nat} (h : k < l.length) : (iL l)[k]? = some (.int l[k]) := by
  unfold iL; rw [List.getElem?_map, List.getElem?_eq_getElem h]; rfl
theorem iL_app (l m : List Int) : iL l ++ iL m = iL (l ++ m) := by unfold iL; rw [List.map_append]
theorem iL_take (l : List Int) (k : Nat) : (iL l).take k = iL (l.take k) := by unfold iL; rw [List.map_take]
def Sq (S : Store) (x : D) (l : List Int) : Prop := x = .tup (iL l) ∨ ∃ r, x = .ref r ∧ S[r]? = some (.lst (iL l))
section
variable {S S' : Store} {x : D} {l m : List Int} {k r : Nat}
theorem Sq.tup : Sq S (.tup (iL l)) l := .inl rfl
theorem Sq.lst (h : S[r]? = some (.lst (iL l))) : Sq S (.ref r) l := .inr ⟨r, rfl, h⟩
theorem Sq.sub (h : Sq S x l) (s : Sub S S') : Sq S' x l := h.elim .inl fun ⟨r, e, h⟩ => .inr ⟨r, e, s _ _ h⟩
theorem Sq.items (h : Sq S x l) : itemsD S x = some (iL l) := by
  rcases h with rfl | ⟨r, rfl, h⟩
  · rfl
  · exact itemsR h
theorem Sq.len (h : Sq S x l) : fLen x S = some (.int l.length, S) := by
  rcases h with rfl | ⟨r, rfl, h⟩
  · rw [f_lenT, iL_len]
  · rw [f_lenR h, iL_len]
theorem Sq.seq (h : Sq S x l) : ∃ J, seqJ x S = some J ∧ ∀ k S', Sub S S' → J k S' = some (iL l)[k]? := by
  rcases h with rfl | ⟨r, rfl, h⟩
  · exact ⟨_, rfl, fun _ _ _ => rfl⟩
  · exact ⟨_, seqR h, fun k S' s => jL_at (s _ _ h)⟩
theorem Sq.list (h : Sq S x l) : fList x S = some (.ref S.length, S ++ [.lst (iL l)]) := by rw [f_list, h.items]; rfl
theorem Sq.tuple (h : Sq S x l) : fTuple x S = some (.tup (iL l), S) := by rw [f_tuple, h.items]; rfl
theorem cut0 {ds : List D} (hk : k ≤ ds.length) : cutD ds none (some (k : Int)) = ds.take k := by
  unfold cutD
  have e1 : HT.sIx ds.length 0 none = 0 := rfl
  have e2 : HT.sIx ds.length ds.length (some (k : Int)) = k := by
    show (if (k : Int) < 0 then ((k : Int) + (ds.length : Int)).toNat else min (k : Int).toNat ds.length) = k
    rw [if_neg (by omega)]
    simp; omega
  rw [e1, e2]; rfl
theorem Sq.cut (h : Sq S x l) (hk : k ≤ l.length) : ∃ y S', oSl x none (some (k : Int)) S = some (y, S') ∧ Sq S' y (l.take k) ∧ Sub S S' := by
  rcases h with rfl | ⟨r, rfl, h⟩
  · exact ⟨_, _, rfl, .inl (by rw [cut0 (by rw [iL_len]; exact hk), iL_take]), Sub.refl _⟩
  · refine ⟨.ref S.length, S ++ [.lst ((iL l).take k)], ?_, .lst (by rw [push_at, iL_take]), Sub.push _ _⟩
    show (itemsL S (.ref r)).map _ = _
    rw [itemsLR h, Option.map_some, cut0 (by rw [iL_len]; exact hk)]
theorem eqv_ints : ∀ {l m : List Int}, PyData.eqvAll (l.map PyData.int) (m.map PyData.int) = decide (l = m)
  | [], [] => rfl
  | [], b :: bs => by simp [PyData.eqvAll]
  | a :: as, [] => by simp [PyData.eqvAll]
  | a :: as, b :: bs => by
    simp only [List.map_cons, PyData.eqvAll, PyData.eqv, eqv_ints]
    by_cases h1 : a = b <;> by_cases h2 : as = bs <;> simp [h1, h2]
theorem eq_lst {r q : Nat} (h : S[r]? = some (.lst (iL l))) (h' : S[q]? = some (.lst (iL m))) : oEq (.ref r) (.ref q) S = some (.bl (decide (l = m)), S) := by
  rw [o_eqP (py_lst h) (py_lst h')]
  congr 3
  rw [← eqv_ints]
  simp [PyData.eqv]
theorem ne_lst {r q : Nat} (h : S[r]? = some (.lst (iL l))) (h' : S[q]? = some (.lst (iL m))) : oNe (.ref r) (.ref q) S = some (.bl (!decide (l = m)), S) := by
  rw [o_neP (py_lst h) (py_lst h')]
  congr 4
  rw [← eqv_ints]
  simp [PyData.eqv]
theorem add_lst {r q : Nat} (h : S[r]? = some (.lst (iL l))) (h' : S[q]? = some (.lst (iL m))) (hl : l.length + m.length ≤ 10000) : oAdd (.ref r) (.ref q) S = some (.ref S.length, S ++ [.lst (iL (l ++ m))]) := by
  have e : oAddL (.ref r) (.ref q) S = some (.ref S.length, S ++ [.lst (iL (l ++ m))]) := by
    simp only [oAddL, h, h', iL_len]
    rw [if_pos (by have : sl = 16777216 := rfl; omega), iL_app]
  unfold oAdd orO
  rw [show oAddI (.ref r) (.ref q) S = none from rfl, e]
end
theorem mulW {i j : Int} {a b : Nat} (h1 : i.natAbs < 2 ^ a) (h2 : j.natAbs < 2 ^ b) (h : a + b < 900000) : mulOk i j = true := mulOk_of h1 h2 (by omega)
end Z

namespace Z
open PySem PySem.Spec
section
variable {α β : Type}
def Rels (R : Store → D → α → Prop) (S : Store) (ds : List D) (l : List α) : Prop := ds.length = l.length ∧ ∀ (k : Nat) (d : D) (a : α), ds[k]? = some d → l[k]? = some a → R S d a
theorem Rels.nil {R : Store → D → α → Prop} {S : Store} : Rels R S [] [] := ⟨rfl, fun k d a h => by simp at h⟩
theorem Rels.imp {R R' : Store → D → α → Prop} {S S' : Store} {ds : List D} {l : List α} (h : Rels R S ds l) (m : ∀ d a, R S d a → R' S' d a) : Rels R' S' ds l := ⟨h.1, fun k d a h1 h2 => m d a (h.2 k d a h1 h2)⟩
theorem Rels.snoc {R : Store → D → α → Prop} {S : Store} {ds : List D} {l : List α} {d : D} {a : α} (h : Rels R S ds l) (r : R S d a) : Rels R S (ds ++ [d]) (l ++ [a]) := by
  refine ⟨by rw [List.length_append, List.length_append, h.1]; rfl, fun k d' a' h1 h2 => ?_⟩
  by_cases hk : k < ds.length
  · rw [List.getElem?_append_left hk] at h1
    rw [List.getElem?_append_left (h.1 ▸ hk)] at h2
    exact h.2 k d' a' h1 h2
  · have lt := (List.getElem?_eq_some_iff.mp h1).1
    rw [List.length_append, List.length_singleton] at lt
    have : k = ds.length := by omega
    subst this
    rw [List.getElem?_append_right (Nat.le_refl _), Nat.sub_self] at h1
    rw [h.1, List.getElem?_append_right (Nat.le_refl _), Nat.sub_self] at h2
    cases h1; cases h2
    exact r
theorem Rels.get {R : Store → D → α → Prop} {S : Store} {ds : List D} {l : List α} {k : Nat} (h : Rels R S ds l) (hk : k < l.length) : ∃ d, ds[k]? = some d ∧ R S d l[k] :=
  ⟨ds[k]'(h.1 ▸ hk), List.getElem?_eq_getElem _, h.2 k _ _ (List.getElem?_eq_getElem (h.1 ▸ hk)) (List.getElem?_eq_getElem hk)⟩
theorem wp_relX {it : DI} {g : DG} {t : DT} {b : DE} {own : List Nat} {env : En} {S : Store} {Q : D → Store → Prop} (R : Store → D → β → Prop) (hR : ∀ S1 S2 d a, R S1 d a → Sub S1 S2 → R S2 d a) (l : List α) (p : α → Bool) (f : α → β) (hl : l.length ≤ 1000000)
    (hi : WP (it env S) fun J S1 => Sub S S1 ∧ ∃ ds : List D, ds.length = l.length ∧ (∀ k S2, k ≤ l.length → Sub S1 S2 → J k S2 = some ds[k]?) ∧
      ∀ (k : Nat) (a : α) (d : D) (S2 : Store), l[k]? = some a → ds[k]? = some d → Sub S1 S2 → WP (g d (wipeE env own) S2) fun e' S3 => WP (t e' S3) fun c S4 => c = p a ∧ Sub S2 S4 ∧ (p a = true → WP (b e' S4) fun y S5 => R S5 y (f a) ∧ Sub S4 S5))
    (hQ : ∀ S1 ys, Sub S S1 → Rels R S1 ys ((l.filter p).map f) → Q (.ref S1.length) (S1 ++ [.lst ys])) : WP (dLc it g t b own env S) Q := by
  refine wp_lc (WP_mono hi fun J S1 ⟨s1, ds, hd, hJ, hb⟩ => ⟨l.length, fun k acc S2 => Sub S1 S2 ∧ Rels R S2 acc (((l.take k).filter p).map f), by omega, ⟨Sub.refl _, by simpa using Rels.nil⟩, fun k acc S2 hk ⟨s2, ha⟩ => ⟨?_, ?_⟩, fun acc S2 ⟨s2, ha⟩ => ⟨?_, ?_⟩⟩)
  · rw [ha.1, List.length_map]
    have := List.length_filter_le p (l.take k)
    have h2 : (l.take k).length ≤ l.length := by rw [List.length_take]; omega
    have : sl = 16777216 := rfl
    omega
  · have hk' : k < ds.length := by omega
    refine ⟨ds[k], by rw [hJ k S2 (Nat.le_of_lt hk) s2, List.getElem?_eq_getElem hk'], WP_mono (hb k l[k] ds[k] S2 (List.getElem?_eq_getElem hk) (List.getElem?_eq_getElem hk') s2) fun e' S3 w => ?_⟩
    have et : l.take (k + 1) = l.take k ++ [l[k]] := by rw [List.take_succ, List.getElem?_eq_getElem hk]; rfl
    refine WP_mono w fun c S4 ⟨ec, s4, w2⟩ => ?_
    subst ec
    cases hp : p l[k] with
    | true =>
      rw [if_pos rfl]
      refine WP_mono (w2 hp) fun y S5 ⟨ry, s5⟩ => ⟨(s2.trans s4).trans s5, ?_⟩
      have : ((l.take (k + 1)).filter p).map f = ((l.take k).filter p).map f ++ [f l[k]] := by
        rw [et, List.filter_append, List.map_append]; simp [hp]
      rw [this]
      exact (ha.imp fun d a h => hR _ _ d a h (s4.trans s5)).snoc ry
    | false =>
      rw [if_neg (by decide)]
      refine ⟨s2.trans s4, ?_⟩
      have : ((l.take (k + 1)).filter p).map f = ((l.take k).filter p).map f := by
        rw [et, List.filter_append, List.map_append]; simp [hp]
      rw [this]
      exact ha.imp fun d a h => hR _ _ d a h s4
  · rw [hJ _ S2 (Nat.le_refl _) s2, ← hd]; simp
  · rw [List.take_length] at ha
    exact hQ _ acc (s1.trans s2) ha
theorem wp_rel {it : DI} {g : DG} {t : DT} {b : DE} {own : List Nat} {env : En} {S : Store} {Q : D → Store → Prop} (R : Store → D → β → Prop) (hR : ∀ S1 S2 d a, R S1 d a → Sub S1 S2 → R S2 d a) (l : List α) (ds : List D) (p : α → Bool) (f : α → β) (hl : l.length ≤ 1000000) (hd : ds.length = l.length)
    (hi : WP (it env S) fun J S1 => Sub S S1 ∧ (∀ k S2, k ≤ l.length → Sub S1 S2 → J k S2 = some ds[k]?))
    (hb : ∀ (k : Nat) (a : α) (d : D) (S1 : Store), l[k]? = some a → ds[k]? = some d → Sub S S1 → WP (g d (wipeE env own) S1) fun e' S2 => WP (t e' S2) fun c S3 => c = p a ∧ Sub S1 S3 ∧ (p a = true → WP (b e' S3) fun y S4 => R S4 y (f a) ∧ Sub S3 S4))
    (hQ : ∀ S1 ys, Sub S S1 → Rels R S1 ys ((l.filter p).map f) → Q (.ref S1.length) (S1 ++ [.lst ys])) : WP (dLc it g t b own env S) Q :=
  wp_relX R hR l p f hl (WP_mono hi fun J S1 ⟨s1, hJ⟩ => ⟨s1, ds, hd, hJ, fun k a d S2 h1 h2 s => hb k a d S2 h1 h2 (s1.trans s)⟩) hQ
theorem rng_bd {n : Nat} (hl : n ≤ 10000) : -(2 ^ 62) ≤ (n : Int) ∧ (n : Int) < 2 ^ 62 := by omega
theorem rng1_items {env : En} {S : Store} {r : DA} {n : Nat} (hr : r env S = .ok [.int (n : Int)] S) (hl : n ≤ 10000) : iRng1 r env S = .ok (jR 0 n) S := by
  have e : ∀ i : Int, (-(2 ^ 62) ≤ i ∧ i < 2 ^ 62) → r env S = .ok [.int i] S → iRng1 r env S = .ok (jR 0 i.toNat) S := fun i hi hr => by
    rw [q_rng1, hr, Res.bind_ok]
    dsimp only
    rw [if_pos hi]
  have := e n (rng_bd hl) hr
  rwa [Int.toNat_natCast] at this
theorem wp_relN {g : DG} {t : DT} {b : DE} {own : List Nat} {env : En} {S : Store} {Q : D → Store → Prop} {r : DA} (R : Store → D → β → Prop) (hR : ∀ S1 S2 d a, R S1 d a → Sub S1 S2 → R S2 d a) (n : Nat) (hr : r env S = .ok [.int (n : Int)] S) (p : Nat → Bool) (f : Nat → β) (hl : n ≤ 10000)
    (hb : ∀ (k : Nat) (S1 : Store), k < n → Sub S S1 → WP (g (.int (k : Int)) (wipeE env own) S1) fun e' S2 => WP (t e' S2) fun c S3 => c = p k ∧ Sub S1 S3 ∧ (p k = true → WP (b e' S3) fun y S4 => R S4 y (f k) ∧ Sub S3 S4))
    (hQ : ∀ S1 ys, Sub S S1 → Rels R S1 ys (((List.range n).filter p).map f) → Q (.ref S1.length) (S1 ++ [.lst ys])) : WP (dLc (iRng1 r) g t b own env S) Q := by
  refine wp_rel R hR (List.range n) ((List.range n).map fun (i : Nat) => D.int (i : Int)) p f (by rw [List.length_range]; omega) (by rw [List.length_map]) ?_ (fun k a d S1 ha hd s1 => ?_) hQ
  · rw [rng1_items hr hl, WP_ok]
    refine ⟨Sub.refl _, fun k S2 hk _ => ?_⟩
    rw [List.length_range] at hk
    by_cases h : k < n
    · rw [jR_at h, List.getElem?_map, List.getElem?_range h]; rfl
    · have : k = n := by omega
      subst this
      rw [jR_end, List.getElem?_eq_none (by simp)]
  · have h : k < n := by have := (List.getElem?_eq_some_iff.mp ha).1; simpa using this
    rw [List.getElem?_range h] at ha
    rw [List.getElem?_map, List.getElem?_range h] at hd
    cases ha
    cases hd
    exact hb k S1 h s1
end
theorem filter_tt {α : Type} (l : List α) : l.filter (fun _ => true) = l := by simp
end Z
namespace Z
open PySem PySem.Spec
def Its (S : Store) (x : D) (ds : List D) : Prop := x = .tup ds ∨ ∃ r, x = .ref r ∧ S[r]? = some (.lst ds)
section
variable {S S' : Store} {x : D} {ds : List D} {rows : List (List Int)}
theorem Its.sub (h : Its S x ds) (s : Sub S S') : Its S' x ds := h.elim .inl fun ⟨r, e, h⟩ => .inr ⟨r, e, s _ _ h⟩
theorem Its.items (h : Its S x ds) : itemsD S x = some ds := by
  rcases h with rfl | ⟨r, rfl, h⟩
  · rfl
  · exact itemsR h
theorem Its.len (h : Its S x ds) : fLen x S = some (.int ds.length, S) := by
  rcases h with rfl | ⟨r, rfl, h⟩
  · rw [f_lenT]
  · rw [f_lenR h]
theorem Its.seq (h : Its S x ds) : ∃ J, seqJ x S = some J ∧ ∀ k S', Sub S S' → J k S' = some ds[k]? := by
  rcases h with rfl | ⟨r, rfl, h⟩
  · exact ⟨_, rfl, fun _ _ _ => rfl⟩
  · exact ⟨_, seqR h, fun k S' s => jL_at (s _ _ h)⟩
def Rg (S : Store) (x : D) (rows : List (List Int)) : Prop := ∃ ds, Its S x ds ∧ Rels Sq S ds rows
theorem Rg.sub (h : Rg S x rows) (s : Sub S S') : Rg S' x rows := let ⟨ds, a, b⟩ := h; ⟨ds, a.sub s, b.imp fun _ _ q => q.sub s⟩
end
def IN (e : Nat) (S : Store) (d : D) (l : List Int) : Prop := ∃ r, d = .ref r ∧ r ≠ e ∧ S[r]? = some (.lst (iL l))
def RN (e : Nat) (S : Store) (r : Nat) (rows : List (List Int)) : Prop := ∃ ds, S[r]? = some (.lst ds) ∧ Rels (IN e) S ds rows
theorem IN.set {e : Nat} {S1 : Store} {d : D} {l : List Int} {o : O} (h : IN e S1 d l) : IN e (S1.set e o) d l := let ⟨r, a, b, h⟩ := h; ⟨r, a, b, set_ne b.symm h⟩
theorem RN.set {e r : Nat} {S1 : Store} {rows : List (List Int)} {o : O} (h : RN e S1 r rows) (n : r ≠ e) : RN e (S1.set e o) r rows := let ⟨ds, a, b⟩ := h; ⟨ds, set_ne n.symm a, b.imp fun _ _ q => q.set⟩
theorem lt_of_at {S : Store} {r : Nat} {o : O} (h : S[r]? = some o) : r < S.length := (List.getElem?_eq_some_iff.mp h).1
end Z
namespace Z
open PySem PySem.Spec
theorem rels_int {S : Store} {ys : List D} {l : List Int} (h : Rels (fun _ d (i : Int) => d = .int i) S ys l) : ys = iL l := by
  refine List.ext_getElem? fun k => ?_
  unfold iL
  by_cases hk : k < l.length
  · obtain ⟨d, e, rfl⟩ := h.get hk
    rw [e, List.getElem?_map, List.getElem?_eq_getElem hk]; rfl
  · rw [List.getElem?_eq_none (by rw [h.1]; omega), List.getElem?_eq_none (by simp; omega)]
theorem wp_ints {α : Type} {it : DI} {g : DG} {t : DT} {b : DE} {own : List Nat} {env : En} {S : Store} {Q : D → Store → Prop} (l : List α) (ds : List D) (p : α → Bool) (f : α → Int) (hl : l.length ≤ 1000000) (hd : ds.length = l.length)
    (hi : WP (it env S) fun J S1 => Sub S S1 ∧ (∀ k S2, k ≤ l.length → Sub S1 S2 → J k S2 = some ds[k]?))
    (hb : ∀ (k : Nat) (a : α) (d : D) (S1 : Store), l[k]? = some a → ds[k]? = some d → Sub S S1 → WP (g d (wipeE env own) S1) fun e' S2 => WP (t e' S2) fun c S3 => c = p a ∧ Sub S1 S3 ∧ (p a = true → WP (b e' S3) fun y S4 => y = .int (f a) ∧ Sub S3 S4))
    (hQ : ∀ S1, Sub S S1 → Q (.ref S1.length) (S1 ++ [.lst (iL ((l.filter p).map f))])) : WP (dLc it g t b own env S) Q :=
  wp_rel (fun _ d (i : Int) => d = .int i) (fun _ _ _ _ h _ => h) l ds p f hl hd hi hb fun S1 ys s1 h2 => by rw [rels_int h2]; exact hQ S1 s1
end Z

namespace Z
open PySem PySem.Spec
def clr (p f : Int) (row line : List Int) : List Int := (List.zip row line).map fun z => (z.1 - f * z.2) % p
abbrev RS := List (List Int) × List (List Int) × List Int
theorem clr_len {p f : Int} {r l : List Int} (h : r.length = l.length) : (clr p f r l).length = r.length := by unfold clr; rw [List.length_map, List.length_zip]; omega
theorem getD_at {L : List (List Int)} {k : Nat} (h : k < L.length) : L.getD k [] = L[k] := by rw [List.getD_eq_getElem?_getD, List.getElem?_eq_getElem h]; rfl
end Z

namespace Z
def Vec (p : Int) (n : Nat) (v : List Int) : Prop := v.length = n ∧ ∀ x ∈ v, 0 ≤ x ∧ x < p
section
variable {p f g : Int} {n k l : Nat} {u v w a b : List Int} {L M B : List (List Int)}
theorem Vec.cf (h : Vec p n v) (hp : 0 < p) (k : Nat) : 0 ≤ cf v k ∧ cf v k < p := by
  by_cases hk : k < v.length
  · rw [cf_get hk]; exact h.2 _ (List.getElem_mem hk)
  · rw [cf_out (by omega)]; omega
theorem Vec.mod (h : Vec p n v) (hp : 0 < p) (k : Nat) : Z.cf v k % p = Z.cf v k := Int.emod_eq_of_lt (h.cf hp k).1 (h.cf hp k).2
theorem Vec.ext (hp : 0 < p) (h : Vec p n v) (h' : Vec p n w) (e : ∀ k, (Z.cf v k - Z.cf w k) % p = 0) : v = w := by
  have key : ∀ k, Z.cf v k = Z.cf w k := fun k => by
    have := h.cf hp k
    have := h'.cf hp k
    have h0 := e k
    have h1 := Int.emod_emod_of_dvd (Z.cf v k - Z.cf w k) (Int.dvd_refl p)
    obtain ⟨d, hd⟩ := Int.dvd_of_emod_eq_zero h0
    have : d = 0 := by
      rcases Int.lt_trichotomy d 0 with z | z | z
      · have : p * d ≤ p * (-1) := Int.mul_le_mul_of_nonneg_left (by omega) (by omega)
        omega
      · exact z
      · have : p * 1 ≤ p * d := Int.mul_le_mul_of_nonneg_left (by omega) (by omega)
        omega
    rw [this] at hd
    omega
  refine List.ext_getElem? fun j => ?_
  by_cases hj : j < v.length
  · have hj' : j < w.length := by rw [h'.1, ← h.1]; exact hj
    have := key j
    rw [cf_get hj, cf_get hj'] at this
    rw [List.getElem?_eq_getElem hj, List.getElem?_eq_getElem hj', this]
  · rw [List.getElem?_eq_none (by omega), List.getElem?_eq_none (by rw [h'.1, ← h.1]; omega)]
def zv (n : Nat) : List Int := List.replicate n 0
theorem cf_zv : cf (zv n) k = 0 := by
  unfold zv cf
  rw [List.getD_eq_getElem?_getD, List.getElem?_replicate]
  split <;> rfl
theorem zv_vec (hp : 0 < p) : Vec p n (zv n) := ⟨by unfold zv; simp, fun x hx => by rw [(List.mem_replicate.mp hx).2]; omega⟩
theorem cf_clr (h : v.length = w.length) : cf (clr p f v w) k = (cf v k - f * cf w k) % p := by
  have hl := clr_len (p := p) (f := f) h
  by_cases hk : k < v.length
  · rw [cf_get (by rw [hl]; exact hk), cf_get hk, cf_get (by omega)]
    unfold clr
    rw [List.getElem_map, List.getElem_zip]
  · rw [cf_out (by rw [hl]; omega), cf_out (by omega), cf_out (l := w) (by omega)]; simp
theorem clr_vec (hp : 0 < p) (h : v.length = n) (h' : w.length = n) : Vec p n (clr p f v w) := by
  refine ⟨by rw [clr_len (by omega)]; exact h, fun x hx => ?_⟩
  obtain ⟨z, _, rfl⟩ := List.mem_map.mp hx
  exact ⟨Int.emod_nonneg _ (by omega), Int.emod_lt_of_pos _ hp⟩
def Vecs (p : Int) (n : Nat) (L : List (List Int)) : Prop := ∀ l ∈ L, Vec p n l
inductive Sp (p : Int) (n : Nat) (L : List (List Int)) : List Int → Prop
  | zero : Sp p n L (zv n)
  | step {v l : List Int} (f : Int) : Sp p n L v → l ∈ L → Sp p n L (clr p f v l)
theorem Sp.vec (hp : 0 < p) (hL : Vecs p n L) (h : Sp p n L v) : Vec p n v := by
  induction h with
  | zero => exact zv_vec hp
  | step f _ hl ih => exact clr_vec hp ih.1 (hL _ hl).1
theorem mod_lin (x y z : Int) : (x - f * ((y - g * z) % p)) % p = ((x - f * y) % p - -(f * g) * z) % p := by
  rw [Int.sub_emod x, Int.mul_emod f, Int.emod_emod_of_dvd _ (Int.dvd_refl p), ← Int.mul_emod, ← Int.sub_emod, Int.sub_emod ((x - f * y) % p), Int.emod_emod_of_dvd _ (Int.dvd_refl p), ← Int.sub_emod]
  congr 1
  rw [Int.mul_sub, Int.neg_mul, Int.mul_assoc]
  omega
theorem clr_zero (hp : 0 < p) (h : Vec p n v) : clr p f v (zv n) = v := by
  refine Vec.ext hp (clr_vec hp h.1 (zv_vec hp).1) h fun k => ?_
  rw [cf_clr (by rw [h.1, (zv_vec (p := p) hp).1]), cf_zv, Int.mul_zero, Int.sub_zero, h.mod hp]
  simp
theorem Sp.sub (hp : 0 < p) (hL : Vecs p n L) (hv : Sp p n L v) (hw : Sp p n L w) : ∀ f, Sp p n L (clr p f v w) := by
  induction hw with
  | zero => exact fun f => by rw [clr_zero hp (hv.vec hp hL)]; exact hv
  | @step u l g hu hl ih =>
    intro f
    have vv := hv.vec hp hL
    have vu := hu.vec hp hL
    have vl := hL _ hl
    have e : clr p f v (clr p g u l) = clr p (-(f * g)) (clr p f v u) l := by
      have v1 := clr_vec (f := g) hp vu.1 vl.1
      have v2 := clr_vec (f := f) hp vv.1 vu.1
      refine Vec.ext hp (clr_vec hp vv.1 v1.1) (clr_vec hp v2.1 vl.1) fun k => ?_
      rw [cf_clr (by rw [vv.1, v1.1]), cf_clr (v := u) (by rw [vu.1, vl.1]), cf_clr (by rw [v2.1, vl.1]), cf_clr (v := v) (w := u) (by rw [vv.1, vu.1]), mod_lin]
      simp
    rw [e]
    exact .step _ (ih f) hl
theorem Sp.mem (hp : 0 < p) (hL : Vecs p n L) (h : v ∈ L) : Sp p n L v := by
  have e : clr p (-1) (zv n) v = v := by
    refine Vec.ext hp (clr_vec hp (zv_vec hp).1 (hL _ h).1) (hL _ h) fun k => ?_
    rw [cf_clr (by rw [(hL _ h).1, (zv_vec (p := p) hp).1]), cf_zv, show (0 : Int) - -1 * cf v k = cf v k by omega, (hL _ h).mod hp]
    simp
  rw [← e]
  exact .step _ .zero h
theorem Sp.le (hp : 0 < p) (hM : Vecs p n M) (h : ∀ l ∈ L, Sp p n M l) (hv : Sp p n L v) : Sp p n M v := by
  induction hv with
  | zero => exact .zero
  | step f _ hl ih => exact ih.sub hp hM (h _ hl) f
def scl (p f : Int) (v : List Int) : List Int := v.map fun x => x * f % p
theorem scl_clr (hp : 0 < p) (h : v.length = n) : scl p f v = clr p (-f) (zv n) v := by
  have e : ∀ m : Nat, ∀ v : List Int, v.length = m → scl p f v = clr p (-f) (zv m) v := by
    intro m
    induction m with
    | zero => intro v hv; rw [List.eq_nil_of_length_eq_zero hv]; rfl
    | succ m ih =>
      intro v hv
      cases v with
      | nil => simp at hv
      | cons x v =>
        have := ih v (by simpa using hv)
        unfold scl clr zv at *
        rw [List.map_cons, this, List.replicate_succ, List.zip_cons_cons, List.map_cons]
        congr 2
        show x * f = 0 - -f * x
        rw [Int.neg_mul, Int.mul_comm x f]; omega
  exact e n v h
theorem Sp.scl (hp : 0 < p) (hL : Vecs p n L) (h : Sp p n L v) : Sp p n L (Z.scl p f v) := by
  rw [scl_clr hp (h.vec hp hL).1]
  exact Sp.sub hp hL .zero h _
abbrev Pr := Nat × List Int
structure RR (p : Int) (n : Nat) (Z : List Pr) : Prop where
  up : (Z.map (·.1)).Pairwise (· < ·)
  vec : ∀ z ∈ Z, Vec p n z.2
  lt : ∀ z ∈ Z, z.1 < n
  low : ∀ z ∈ Z, ∀ k, k < z.1 → cf z.2 k = 0
  one : ∀ z ∈ Z, ∀ y ∈ Z, cf z.2 y.1 = if z.1 = y.1 then 1 else 0
def rowsOf (Z : List Pr) : List (List Int) := Z.map (·.2)
theorem RR.vecs {Z : List Pr} (h : RR p n Z) : Vecs p n (rowsOf Z) := fun l hl => by
  obtain ⟨z, hz, rfl⟩ := List.mem_map.mp hl
  exact h.vec z hz
def cmb : List Pr → List Int → Nat → Int
  | [], _, _ => 0
  | z :: Z, v, k => cf v z.1 * cf z.2 k + cmb Z v k
theorem cmb_zero {Z : List Pr} : cmb Z (zv n) k = 0 := by
  induction Z with
  | nil => rfl
  | cons z Z ih => unfold cmb; rw [cf_zv, ih]; simp
theorem cmb_none {Z : List Pr} (h : ∀ z ∈ Z, cf v z.1 * cf z.2 k = 0) : cmb Z v k = 0 := by
  induction Z with
  | nil => rfl
  | cons z Z ih => unfold cmb; rw [h z List.mem_cons_self, ih fun y hy => h y (List.mem_cons_of_mem _ hy)]; rfl
theorem cmb_one {Z : List Pr} {z : Pr} (hu : (Z.map (·.1)).Pairwise (· < ·)) (hz : z ∈ Z) (h : ∀ y ∈ Z, cf v y.1 = if z.1 = y.1 then 1 else 0) : cmb Z v k = cf z.2 k := by
  induction Z with
  | nil => cases hz
  | cons y Z ih =>
    obtain ⟨h1, h2⟩ := List.pairwise_cons.mp hu
    unfold cmb
    rw [h y List.mem_cons_self]
    rcases List.mem_cons.mp hz with e | e
    · subst e
      rw [if_pos rfl, cmb_none fun x hx => by
        have : z.1 < x.1 := h1 x.1 (List.mem_map.mpr ⟨x, hx, rfl⟩)
        rw [h x (List.mem_cons_of_mem _ hx), if_neg (by omega), Int.zero_mul]]
      omega
    · have : y.1 < z.1 := h1 z.1 (List.mem_map.mpr ⟨z, e, rfl⟩)
      rw [if_neg (by omega), ih h2 e fun x hx => h x (List.mem_cons_of_mem _ hx)]
      omega
theorem emod_sub_zero {x y : Int} (h : (x - y) % p = 0) : ∃ d, x = y + p * d := by
  obtain ⟨d, hd⟩ := Int.dvd_of_emod_eq_zero h
  exact ⟨d, by omega⟩
theorem cmb_step {Z : List Pr} {z : Pr} (R : RR p n Z) (hz : z ∈ Z) (hv : v.length = n) (hp : 0 < p) : (cmb Z (clr p f v z.2) k - (cmb Z v k - f * cf z.2 k)) % p = 0 := by
  have hzv := R.vec z hz
  have gen : ∀ Y : List Pr, (∀ y ∈ Y, y ∈ Z) → ∃ d, cmb Y (clr p f v z.2) k = cmb Y v k - f * cmb Y z.2 k + p * d := by
    intro Y
    induction Y with
    | nil => intro _; exact ⟨0, by simp [cmb]⟩
    | cons y Y ih =>
      intro hY
      obtain ⟨d, hd⟩ := ih fun x hx => hY x (List.mem_cons_of_mem _ hx)
      unfold cmb
      rw [hd, cf_clr (by rw [hv, hzv.1])]
      have e := Int.emod_add_mul_ediv (cf v y.1 - f * cf z.2 y.1) p
      generalize (cf v y.1 - f * cf z.2 y.1) % p = r at *
      generalize (cf v y.1 - f * cf z.2 y.1) / p = q at *
      refine ⟨d - q * cf y.2 k, ?_⟩
      have e2 : r = cf v y.1 - f * cf z.2 y.1 - p * q := by omega
      rw [e2]
      simp only [Int.sub_mul, Int.mul_add, Int.mul_sub, Int.mul_assoc, Int.add_mul]
      omega
  obtain ⟨d, hd⟩ := gen Z fun _ h => h
  rw [hd, cmb_one R.up hz fun y hy => R.one z hz y hy]
  have : cmb Z v k - f * cf z.2 k + p * d - (cmb Z v k - f * cf z.2 k) = p * d := by omega
  rw [this]
  exact Int.mul_emod_right p d
theorem RR.told {Z : List Pr} (R : RR p n Z) (hp : 0 < p) (h : Sp p n (rowsOf Z) v) : ∀ k, (cf v k - cmb Z v k) % p = 0 := by
  induction h with
  | zero => intro k; rw [cf_zv, cmb_zero]; simp
  | @step v l f hv hl ih =>
    intro k
    obtain ⟨z, hz, rfl⟩ := List.mem_map.mp hl
    have vv := hv.vec hp R.vecs
    obtain ⟨d1, h1⟩ := emod_sub_zero (ih k)
    obtain ⟨d2, h2⟩ := emod_sub_zero (cmb_step (f := f) (k := k) R hz vv.1 hp)
    rw [cf_clr (by rw [vv.1, (R.vec z hz).1]), h2]
    have e := Int.emod_add_mul_ediv (cf v k - f * cf z.2 k) p
    generalize (cf v k - f * cf z.2 k) % p = r at *
    generalize (cf v k - f * cf z.2 k) / p = q at *
    have : r - (cmb Z v k - f * cf z.2 k + p * d2) = p * (d1 - d2 - q) := by
      simp only [Int.mul_sub]; omega
    rw [this]
    exact Int.mul_emod_right _ _
end
end Z

namespace Z
section
variable {p f g : Int} {n k l : Nat} {u v w a b row : List Int} {L M B : List (List Int)} {Z Y : List Pr}
def walkD (p : Int) (Z : List Pr) (v : List Int) : List Int := Z.foldl (fun v z => if cf v z.1 ≠ 0 then clr p (cf v z.1) v z.2 else v) v
def ipow (p : Int) : Nat → Int → Int → Int → Int
  | 0, found, _, _ => found
  | m + 1, found, factor, left => if 0 < left then ipow p m (if left % 2 = 1 then found * factor % p else found) (factor * factor % p) (left / 2) else found
def inv2 (p n : Int) : Int := ipow p 10 1 (n % p) (p - 2)
def less (ls : List Nat) (l : Nat) : Nat := (ls.filter fun k => decide (k < l)).length
def insAt {α : Type} (xs : List α) (k : Nat) (x : α) : List α := xs.take k ++ x :: xs.drop k
def stepR (p : Int) (Z : List Pr) (row : List Int) : List Pr := match GeX.firstP (walkD p Z row) with
  | none => Z
  | some l => insAt (Z.map fun z => (z.1, if cf z.2 l ≠ 0 then clr p (cf z.2 l) z.2 (scl p (inv2 p (cf (walkD p Z row) l)) (walkD p Z row)) else z.2)) (less (Z.map (·.1)) l)
      (l, scl p (inv2 p (cf (walkD p Z row) l)) (walkD p Z row))
end
end Z

namespace Z
section
variable {p f g : Int} {n k l c : Nat} {u v w a b row : List Int} {L M B rows : List (List Int)} {Z Y : List Pr}
def SpEq (p : Int) (n : Nat) (L M : List (List Int)) : Prop := (∀ l ∈ L, Sp p n M l) ∧ ∀ l ∈ M, Sp p n L l
theorem SpEq.refl (hp : 0 < p) (h : Vecs p n L) : SpEq p n L L := ⟨fun _ hl => Sp.mem hp h hl, fun _ hl => Sp.mem hp h hl⟩
theorem SpEq.symm (h : SpEq p n L M) : SpEq p n M L := ⟨h.2, h.1⟩
theorem SpEq.trans (hp : 0 < p) (hL : Vecs p n L) (hB : Vecs p n B) (h : SpEq p n L M) (h' : SpEq p n M B) : SpEq p n L B := ⟨fun l hl => Sp.le hp hB h'.1 (h.1 l hl), fun l hl => Sp.le hp hL h.2 (h'.2 l hl)⟩
theorem SpEq.sp (hp : 0 < p) (hL : Vecs p n L) (hM : Vecs p n M) (h : SpEq p n L M) : Sp p n L v ↔ Sp p n M v := ⟨Sp.le hp hM h.1, Sp.le hp hL h.2⟩
theorem RR.nil : RR p n [] := ⟨List.Pairwise.nil, fun _ h => (nomatch h), fun _ h => (nomatch h), fun _ h => (nomatch h), fun _ h => (nomatch h)⟩
structure RedI (p : Int) (n : Nat) (rows : List (List Int)) (c : Nat) (st : RS) (Z : List Pr) : Prop where
  found : st.2.1 = rowsOf Z
  leads : st.2.2 = Z.map fun z => (z.1 : Int)
  rr : RR p n Z
  lt : ∀ z ∈ Z, z.1 < c
  vec : Vecs p n st.1
  zero : ∀ r ∈ st.1, ∀ k, k < c → cf r k = 0
  sp : SpEq p n (st.2.1 ++ st.1) rows
end
end Z

namespace Z
open PySem PySem.Spec
theorem sub_len {S S' : Store} (s : Sub S S') : S.length ≤ S'.length := by
  by_cases h0 : S.length = 0
  · omega
  · have hl : S.length - 1 < S.length := by omega
    have := (List.getElem?_eq_some_iff.mp (s _ _ (List.getElem?_eq_getElem hl))).1
    omega
theorem q_aug {i : Nat} {op : Op2} {a : DE} {env : En} {S : Store} : sAug i op a env S = match env[i]? with
  | some (some d) => (a env S).bind fun x S1 => (ofO (op d x S1)).bind fun y S2 => .ok (.nx (env.set i (some y))) S2
  | _ => .bad := rfl
theorem q_zip {r : DA} {env : En} {S : Store} : iZip r env S = (r env S).bind fun xs S1 => match xs with
  | [x, y] => if (itemsD S1 x).isSome ∧ (itemsD S1 y).isSome then .ok (jZip x y) S1 else .bad
  | _ => .bad := rfl
def pr2 (z : Int × Int) : D := .tup [.int z.1, .int z.2]
theorem jZ_at {S : Store} {x y : D} {p q : List Int} {k : Nat} (hx : itemsD S x = some (iL p)) (hy : itemsD S y = some (iL q)) (h : p.length = q.length) (hk : k ≤ p.length) : jZip x y k S = some (((List.zip p q).map pr2)[k]?) := by
  unfold jZip
  rw [hx, hy]
  dsimp only
  by_cases h2 : k < p.length
  · rw [iL_at h2, iL_at (l := q) (by omega)]
    dsimp only
    rw [List.getElem?_map, List.getElem?_eq_getElem (by rw [List.length_zip]; omega)]
    simp [pr2]
  · have : k = p.length := by omega
    subst this
    have e1 : (iL p)[p.length]? = none := List.getElem?_eq_none (by rw [iL_len]; exact Nat.le_refl _)
    have e2 : (iL q)[p.length]? = none := List.getElem?_eq_none (by rw [iL_len]; omega)
    rw [e1, e2]
    dsimp only
    rw [if_pos (by rw [iL_len, iL_len]; omega), List.getElem?_eq_none (by rw [List.length_map, List.length_zip]; omega)]
theorem o_addLL {S : Store} {r q : Nat} {xs ys : List D} (h : S[r]? = some (.lst xs)) (h' : S[q]? = some (.lst ys)) (hl : xs.length + ys.length ≤ 10000) : oAdd (.ref r) (.ref q) S = some (.ref S.length, S ++ [.lst (xs ++ ys)]) := by
  have e : oAddL (.ref r) (.ref q) S = some (.ref S.length, S ++ [.lst (xs ++ ys)]) := by
    simp only [oAddL, h, h']
    rw [if_pos (by have : sl = 16777216 := rfl; omega)]
  unfold oAdd orO
  rw [show oAddI (.ref r) (.ref q) S = none from rfl, e]
def tR (rows : List (List Int)) : D := .tup (rows.map fun l => D.tup (iL l))
end Z

namespace Z
open PySem PySem.Spec
section
variable {it it1 : DI} {J : Itd} {g g1 : DG} {t t1 : DT} {b : DE} {own vs1 : List Nat} {env : En} {S : Store} {r : Nat}
theorem wp_lcIgo {Q : Unit → Store → Prop} (n : Nat) (I : Nat → Store → Prop)
    (hs : ∀ k S, k < n → I k S → ∃ d, J k S = some (some d) ∧ WP (g d env S) fun e S1 => WP (t e S1) fun c S2 => if c = true then WP (b e S2) fun y S3 => ∃ acc, S3[r]? = some (.lst acc) ∧ acc.length < sl ∧ I (k + 1) (S3.set r (.lst (acc ++ [y]))) else I (k + 1) S2)
    (hd : ∀ S, I n S → J n S = some none ∧ Q () S) : ∀ (m k : Nat) (S : Store), n < k + m → k ≤ n → I k S → WP (lcI J g t b env r m k S) Q
  | 0, k, S, h1, h2, _ => by omega
  | m + 1, k, S, h1, h2, hI => by
    unfold lcI
    by_cases hk : k = n
    · subst hk
      obtain ⟨e, q⟩ := hd S hI
      rw [e]
      exact WP_ok.mpr q
    · obtain ⟨d, e, w⟩ := hs k S (by omega) hI
      rw [e]
      dsimp only
      rw [WP_bind, WP_cut]
      refine WP_mono w fun e1 S1 w1 => ?_
      rw [WP_bind, WP_cut]
      refine WP_mono w1 fun c S2 w2 => ?_
      cases c with
      | true =>
        rw [if_pos rfl] at w2 ⊢
        rw [WP_bind, WP_cut]
        refine WP_mono w2 fun y S3 ⟨acc, ea, hl, w3⟩ => ?_
        have e4 : appO r y S3 = some (S3.set r (.lst (acc ++ [y]))) := by unfold appO; rw [ea]; dsimp only; rw [if_pos hl]
        rw [e4]
        exact wp_lcIgo n I hs hd m (k + 1) _ (by omega) (by omega) w3
      | false =>
        rw [if_neg Bool.false_ne_true] at w2 ⊢
        exact wp_lcIgo n I hs hd m (k + 1) S2 (by omega) (by omega) w2
theorem wp_lcI {Q : Unit → Store → Prop} (n : Nat) (I : Nat → Store → Prop) (hn : n ≤ 2 ^ 60) (h0 : I 0 S)
    (hs : ∀ k S, k < n → I k S → ∃ d, J k S = some (some d) ∧ WP (g d env S) fun e S1 => WP (t e S1) fun c S2 => if c = true then WP (b e S2) fun y S3 => ∃ acc, S3[r]? = some (.lst acc) ∧ acc.length < sl ∧ I (k + 1) (S3.set r (.lst (acc ++ [y]))) else I (k + 1) S2)
    (hd : ∀ S, I n S → J n S = some none ∧ Q () S) : WP (lcI J g t b env r FUEL 0 S) Q := wp_lcIgo n I hs hd FUEL 0 S (by unfold FUEL; omega) (Nat.zero_le _) h0
theorem wp_lcOgo {Q : Unit → Store → Prop} (n : Nat) (I : Nat → Store → Prop)
    (hs : ∀ k S, k < n → I k S → ∃ d, J k S = some (some d) ∧ WP (g d env S) fun e S1 => WP (t e S1) fun c S2 => if c = true then WP (it1 e S2) fun J1 S3 => WP (lcI J1 g1 t1 b (wipeE e vs1) r FUEL 0 S3) fun _ S4 => I (k + 1) S4 else I (k + 1) S2)
    (hd : ∀ S, I n S → J n S = some none ∧ Q () S) : ∀ (m k : Nat) (S : Store), n < k + m → k ≤ n → I k S → WP (lcO J g t it1 g1 t1 b vs1 env r m k S) Q
  | 0, k, S, h1, h2, _ => by omega
  | m + 1, k, S, h1, h2, hI => by
    unfold lcO
    by_cases hk : k = n
    · subst hk
      obtain ⟨e, q⟩ := hd S hI
      rw [e]
      exact WP_ok.mpr q
    · obtain ⟨d, e, w⟩ := hs k S (by omega) hI
      rw [e]
      dsimp only
      rw [WP_bind, WP_cut]
      refine WP_mono w fun e1 S1 w1 => ?_
      rw [WP_bind, WP_cut]
      refine WP_mono w1 fun c S2 w2 => ?_
      cases c with
      | true =>
        rw [if_pos rfl] at w2 ⊢
        rw [WP_bind, WP_cut]
        refine WP_mono w2 fun J1 S3 w3 => ?_
        rw [WP_bind]
        exact WP_mono w3 fun _ S4 w4 => wp_lcOgo n I hs hd m (k + 1) S4 (by omega) (by omega) w4
      | false =>
        rw [if_neg Bool.false_ne_true] at w2 ⊢
        exact wp_lcOgo n I hs hd m (k + 1) S2 (by omega) (by omega) w2
theorem wp_lcO {Q : Unit → Store → Prop} (n : Nat) (I : Nat → Store → Prop) (hn : n ≤ 2 ^ 60) (h0 : I 0 S)
    (hs : ∀ k S, k < n → I k S → ∃ d, J k S = some (some d) ∧ WP (g d env S) fun e S1 => WP (t e S1) fun c S2 => if c = true then WP (it1 e S2) fun J1 S3 => WP (lcI J1 g1 t1 b (wipeE e vs1) r FUEL 0 S3) fun _ S4 => I (k + 1) S4 else I (k + 1) S2)
    (hd : ∀ S, I n S → J n S = some none ∧ Q () S) : WP (lcO J g t it1 g1 t1 b vs1 env r FUEL 0 S) Q := wp_lcOgo n I hs hd FUEL 0 S (by unfold FUEL; omega) (Nat.zero_le _) h0
theorem wp_lc2 {Q : D → Store → Prop} (h : WP (it env S) fun J S1 => WP (lcO J g t it1 g1 t1 b vs1 (wipeE env own) S1.length FUEL 0 (S1 ++ [.lst []])) fun _ S2 => Q (.ref S1.length) S2) : WP (dLc2 it g t it1 g1 t1 b own vs1 env S) Q := by
  unfold dLc2
  rw [WP_bind]
  refine WP_mono h fun J S1 w => ?_
  rw [WP_bind]
  exact WP_mono w fun _ S2 q => WP_ok.mpr q
end
end Z

namespace Z
open PySem PySem.Spec
section
variable {α β : Type} {it it1 : DI} {J : Itd} {t1 : DT} {b : DE} {own vs1 : List Nat} {env : En} {S : Store} {i j : Nat} {Q : D → Store → Prop}
theorem wp_lc2X (L : List α) (M : List β) (dA : α → D) (dB : β → D) (P : α → β → Bool) (F : α → β → D) (hJ : it env S = .ok J S) (hJat : ∀ k S', Sub S S' → k ≤ L.length → J k S' = some ((L.map dA)[k]?))
    (hit : ∀ a S', a ∈ L → Sub S S' → ∃ J1, it1 ((wipeE env own).set i (some (dA a))) S' = .ok J1 S' ∧ ∀ k S'', Sub S S'' → k ≤ M.length → J1 k S'' = some ((M.map dB)[k]?))
    (ht : ∀ a b S', a ∈ L → b ∈ M → Sub S S' → WP (t1 ((wipeE ((wipeE env own).set i (some (dA a))) vs1).set j (some (dB b))) S') fun c S2 => c = P a b ∧ Sub S' S2)
    (hb : ∀ a c S', a ∈ L → c ∈ M → P a c = true → Sub S S' → WP (b ((wipeE ((wipeE env own).set i (some (dA a))) vs1).set j (some (dB c))) S') fun y S2 => y = F a c ∧ Sub S' S2)
    (hl : L.length * M.length ≤ 100000) (hL : L.length ≤ 100000) (hM : M.length ≤ 100000)
    (hQ : ∀ S', Sub S S' → S'[S.length]? = some (.lst (L.flatMap fun a => (M.filter (P a)).map (F a))) → Q (.ref S.length) S') : WP (dLc2 it (gNm i) tYes1 it1 (gNm j) t1 b own vs1 env S) Q := by
  have hsl : sl = 16777216 := rfl
  refine wp_lc2 ?_
  rw [hJ]
  refine WP_ok.mpr ?_
  refine wp_lcO L.length (fun k S' => Sub S S' ∧ S'[S.length]? = some (.lst ((L.take k).flatMap fun a => (M.filter (P a)).map (F a)))) (by omega) ⟨Sub.push _ _, push_at⟩ (fun k S1 hk ⟨s1, e1⟩ => ?_) fun S1 ⟨s1, e1⟩ => ?_
  · have ha : L[k] ∈ L := List.getElem_mem hk
    refine ⟨dA L[k], by rw [hJat k S1 s1 (by omega), List.getElem?_map, List.getElem?_eq_getElem hk]; rfl, ?_⟩
    rw [q_gnm]
    refine WP_ok.mpr ?_
    rw [q_yes]
    refine WP_ok.mpr ?_
    rw [if_pos rfl]
    obtain ⟨J1, eJ, at1⟩ := hit L[k] S1 ha s1
    rw [eJ]
    refine WP_ok.mpr ?_
    have bnd : ((L.take k).flatMap fun a => (M.filter (P a)).map (F a)).length ≤ k * M.length := by
      have : ∀ l : List α, (l.flatMap fun a => (M.filter (P a)).map (F a)).length ≤ l.length * M.length := fun l => by
        induction l with
        | nil => simp
        | cons x l ih =>
          rw [List.flatMap_cons, List.length_append, List.length_map, List.length_cons, Nat.succ_mul]
          have := List.length_filter_le (P x) M
          omega
      have := this (L.take k)
      rw [List.length_take, Nat.min_eq_left (by omega)] at this
      exact this
    have bk : k * M.length + M.length ≤ L.length * M.length := by rw [← Nat.succ_mul]; exact Nat.mul_le_mul_right _ hk
    refine wp_lcI M.length (fun q S' => Sub S S' ∧ S'[S.length]? = some (.lst (((L.take k).flatMap fun a => (M.filter (P a)).map (F a)) ++ ((M.take q).filter (P L[k])).map (F L[k])))) (by omega) ⟨s1, by simpa using e1⟩ (fun q S2 hq ⟨s2, e2⟩ => ?_) fun S2 ⟨s2, e2⟩ => ?_
    · have hm : M[q] ∈ M := List.getElem_mem hq
      refine ⟨dB M[q], by rw [at1 q S2 s2 (by omega), List.getElem?_map, List.getElem?_eq_getElem hq]; rfl, ?_⟩
      rw [q_gnm]
      refine WP_ok.mpr ?_
      refine WP_mono (ht L[k] M[q] S2 ha hm s2) fun c S3 ⟨hc, s3⟩ => ?_
      subst hc
      have tk : M.take (q + 1) = M.take q ++ [M[q]] := by rw [List.take_succ_eq_append_getElem hq]
      by_cases hp : P L[k] M[q] = true
      · rw [if_pos hp]
        refine WP_mono (hb L[k] M[q] S3 ha hm hp (s2.trans s3)) fun y S4 ⟨hy, s4⟩ => ?_
        subst hy
        have e4 := s4 _ _ (s3 _ _ e2)
        have lt4 := lt_of_at e4
        have fl : ((M.take q).filter (P L[k])).length ≤ M.length := Nat.le_trans (List.length_filter_le _ _) (by rw [List.length_take]; omega)
        refine ⟨_, e4, by rw [List.length_append, List.length_map]; omega, fun a o ho => ?_, ?_⟩
        · have := (s2.trans (s3.trans s4)) a o ho
          have ha' := lt_of_at ho
          rw [List.getElem?_set_ne (by omega)]
          exact this
        · rw [List.getElem?_set_self lt4, tk, List.filter_append, List.map_append, List.filter_cons_of_pos hp, List.filter_nil, List.append_assoc]
          rfl
      · rw [if_neg hp]
        refine ⟨s2.trans s3, ?_⟩
        rw [tk, List.filter_append, List.filter_cons_of_neg hp, List.filter_nil, List.append_nil]
        exact s3 _ _ e2
    · refine ⟨by rw [at1 _ S2 s2 (Nat.le_refl _), List.getElem?_eq_none (by simp)], s2, ?_⟩
      rw [List.take_length] at e2
      rw [e2, List.take_succ_eq_append_getElem hk, List.flatMap_append, List.flatMap_cons, List.flatMap_nil, List.append_nil]
  · refine ⟨by rw [hJat _ S1 s1 (Nat.le_refl _), List.getElem?_eq_none (by simp)], hQ _ s1 ?_⟩
    rw [List.take_length] at e1
    exact e1
end
end Z

namespace Z
def sm : Nat → (Nat → Int) → Int
  | 0, _ => 0
  | k + 1, f => sm k f + f k
section
variable {n m k : Nat} {f g : Nat → Int} {p a : Int}
theorem sm_congr : ∀ {n : Nat}, (∀ k, k < n → f k = g k) → sm n f = sm n g
  | 0, _ => rfl
  | n + 1, h => by
    unfold sm
    rw [sm_congr fun k hk => h k (by omega), h n (by omega)]
theorem sm_add : ∀ {n : Nat}, sm n (fun k => f k + g k) = sm n f + sm n g
  | 0 => rfl
  | n + 1 => by unfold sm; rw [sm_add]; dsimp only; omega
theorem sm_mul : ∀ {n : Nat}, sm n (fun k => a * f k) = a * sm n f
  | 0 => by simp [sm]
  | n + 1 => by unfold sm; rw [sm_mul, Int.mul_add]
theorem sm_mulr : sm n (fun k => f k * a) = sm n f * a := by
  rw [Int.mul_comm, ← sm_mul]
  exact sm_congr fun k _ => Int.mul_comm _ _
theorem sm_zero : ∀ {n : Nat}, (∀ k, k < n → f k = 0) → sm n f = 0
  | 0, _ => rfl
  | n + 1, h => by
    unfold sm
    rw [sm_zero fun k hk => h k (by omega), h n (by omega)]
    rfl
theorem sm_comm {F : Nat → Nat → Int} : ∀ {n : Nat}, sm n (fun i => sm m (fun j => F i j)) = sm m (fun j => sm n (fun i => F i j))
  | 0 => (sm_zero fun _ _ => rfl).symm
  | n + 1 => by
    show sm n (fun i => sm m (fun j => F i j)) + sm m (fun j => F n j) = _
    rw [sm_comm, ← sm_add]
    rfl
def Eqm (p a b : Int) : Prop := a % p = b % p
theorem Eqm.refl (a : Int) : Eqm p a a := rfl
theorem Eqm.symm {a b : Int} (h : Eqm p a b) : Eqm p b a := Eq.symm h
theorem Eqm.trans {a b c : Int} (h : Eqm p a b) (h' : Eqm p b c) : Eqm p a c := Eq.trans h h'
theorem Eqm.mod (a : Int) : Eqm p (a % p) a := by unfold Eqm; exact Int.emod_emod_of_dvd a (Int.dvd_refl p)
theorem Eqm.add {a b c d : Int} (h : Eqm p a b) (h' : Eqm p c d) : Eqm p (a + c) (b + d) := by
  unfold Eqm at *
  rw [Int.add_emod, h, h', ← Int.add_emod]
theorem Eqm.sub {a b c d : Int} (h : Eqm p a b) (h' : Eqm p c d) : Eqm p (a - c) (b - d) := by
  unfold Eqm at *
  rw [Int.sub_emod, h, h', ← Int.sub_emod]
theorem Eqm.mul {a b c d : Int} (h : Eqm p a b) (h' : Eqm p c d) : Eqm p (a * c) (b * d) := by
  unfold Eqm at *
  rw [Int.mul_emod, h, h', ← Int.mul_emod]
theorem Eqm.sm : ∀ {n : Nat}, (∀ k, k < n → Eqm p (f k) (g k)) → Eqm p (Z.sm n f) (Z.sm n g)
  | 0, _ => rfl
  | n + 1, h => (Eqm.sm fun k hk => h k (by omega)).add (h n (by omega))
end
section
variable {p f g : Int} {n k l c w h : Nat} {u v a b row : List Int} {L M B A rows : List (List Int)} {Z Y : List Pr}
def vk (n : Nat) (f : Nat → Int) : List Int := (List.range n).map f
theorem vk_len {f : Nat → Int} : (vk n f).length = n := by unfold vk; simp
theorem cf_vk {f : Nat → Int} (h : k < n) : cf (vk n f) k = f k := by
  rw [cf_get (by rw [vk_len]; exact h)]
  unfold vk
  simp
theorem md (hp : 0 < p) (x : Int) : 0 ≤ x % p ∧ x % p < p := ⟨Int.emod_nonneg _ (by omega), Int.emod_lt_of_pos _ hp⟩
theorem nodup_le {α : Type} [DecidableEq α] : ∀ {l m : List α}, l.Nodup → (∀ x ∈ l, x ∈ m) → l.length ≤ m.length
  | [], _, _, _ => Nat.zero_le _
  | x :: l, m, hn, h => by
    obtain ⟨h1, h2⟩ := List.nodup_cons.mp hn
    have hx := h x List.mem_cons_self
    have := nodup_le (l := l) (m := m.erase x) h2 fun y hy => (List.mem_erase_of_ne fun e => h1 (by rw [← e]; exact hy)).mpr (h y (List.mem_cons_of_mem _ hy))
    rw [List.length_erase_of_mem hx] at this
    have := List.length_pos_of_mem hx
    rw [List.length_cons]; omega
theorem stepR_len : (stepR p Z row).length ≤ Z.length + 1 := by
  unfold stepR
  split
  · omega
  · unfold insAt
    simp only [List.length_append, List.length_cons, List.length_take, List.length_drop, List.length_map]
    omega
theorem rows_ext {A B : List (List Int)} (hl : A.length = B.length) (h : ∀ i, i < A.length → A.getD i [] = B.getD i []) : A = B := by
  refine List.ext_getElem hl fun i h1 h2 => ?_
  have := h i h1
  rwa [getD_at h1, getD_at h2] at this
def mul (p : Int) (m w : Nat) (A B : List (List Int)) : List (List Int) := A.map fun r => vk w fun k => (sm m fun j => cf r j * cf (B.getD j []) k) % p
theorem mul_len {m : Nat} : (mul p m w A B).length = A.length := by unfold mul; simp
theorem mul_at {m i : Nat} (hi : i < A.length) : (mul p m w A B).getD i [] = vk w fun k => (sm m fun j => cf (A.getD i []) j * cf (B.getD j []) k) % p := by
  rw [getD_at (by rw [mul_len]; exact hi), getD_at hi]
  unfold mul
  rw [List.getElem_map]
theorem mul_en {m i : Nat} (hi : i < A.length) (hk : k < w) : cf ((mul p m w A B).getD i []) k = (sm m fun j => cf (A.getD i []) j * cf (B.getD j []) k) % p := by
  rw [mul_at hi, cf_vk hk]
theorem mul_assoc {m q : Nat} (hA : ∀ r ∈ A, r.length = m) (hB : B.length = m) : mul p q w (mul p m q A B) L = mul p m w A (mul p q w B L) := by
  refine rows_ext (by rw [mul_len, mul_len, mul_len]) fun i hi => ?_
  rw [mul_len, mul_len] at hi
  rw [mul_at (A := mul p m q A B) (by rw [mul_len]; exact hi), mul_at (A := A) (B := mul p q w B L) hi]
  unfold vk
  refine List.map_congr_left fun k hk => ?_
  have hk := List.mem_range.mp hk
  have e1 : Eqm p (sm q fun j => cf ((mul p m q A B).getD i []) j * cf (L.getD j []) k) (sm q fun j => sm m fun t => cf (A.getD i []) t * cf (B.getD t []) j * cf (L.getD j []) k) := Eqm.sm fun j hj => by
    rw [mul_en hi hj, sm_mulr]
    exact (Eqm.mod _).mul (Eqm.refl _)
  have e2 : Eqm p (sm m fun t => cf (A.getD i []) t * cf ((mul p q w B L).getD t []) k) (sm m fun t => sm q fun j => cf (A.getD i []) t * cf (B.getD t []) j * cf (L.getD j []) k) := Eqm.sm fun t ht => by
    rw [mul_en (by omega) hk]
    refine ((Eqm.refl _).mul (Eqm.mod _)).trans ?_
    rw [← sm_mul]
    rw [sm_congr fun j _ => (Int.mul_assoc _ _ _).symm]
    exact Eqm.refl _
  have e3 := e1.trans ((show Eqm p _ _ from by rw [sm_comm]; exact Eqm.refl _).trans e2.symm)
  exact e3
end
end Z

namespace Z
section
variable {p f g : Int} {n k l c w h : Nat} {u v a b row : List Int} {L M B A rows : List (List Int)} {Z Y : List Pr}
theorem RR.same (R : RR p n Z) (T : RR p n Y) (hp : 0 < p) (e : Z.map (·.1) = Y.map (·.1)) (h : ∀ l ∈ rowsOf Z, Sp p n (rowsOf Y) l) : Z = Y := by
  have hl : Z.length = Y.length := by have := congrArg List.length e; simpa using this
  refine List.ext_getElem? fun i => ?_
  by_cases hi : i < Z.length
  · have hi' : i < Y.length := hl ▸ hi
    have e1 : Z[i].1 = Y[i].1 := by
      have := congrArg (fun l => l[i]?) e
      simpa [List.getElem?_eq_getElem hi, List.getElem?_eq_getElem hi'] using this
    have hz := List.getElem_mem hi
    have hy := List.getElem_mem hi'
    rw [List.getElem?_eq_getElem hi, List.getElem?_eq_getElem hi']
    congr 1
    refine Prod.ext e1 ?_
    refine Vec.ext hp (R.vec _ hz) (T.vec _ hy) fun k => ?_
    have t := T.told hp (h _ (List.mem_map.mpr ⟨_, hz, rfl⟩)) k
    rwa [cmb_one T.up hy fun y hy' => ?_] at t
    have hm : y.1 ∈ Z.map (·.1) := by rw [e]; exact List.mem_map.mpr ⟨y, hy', rfl⟩
    obtain ⟨x, hx, ex⟩ := List.mem_map.mp hm
    rw [← ex, R.one _ hz x hx, e1]
  · rw [List.getElem?_eq_none (by omega), List.getElem?_eq_none (by omega)]
def un (m i : Nat) : List Int := vk m fun k => if k = i then 1 else 0
theorem filter_split {α : Type} (q : α → Bool) : ∀ l : List α, (l.filter q).length + (l.filter fun x => !q x).length = l.length
  | [] => rfl
  | a :: l => by
    have := filter_split q l
    rw [List.filter_cons, List.filter_cons]
    cases q a <;> simp <;> omega
def blk (w1 w2 : Nat) (A B : List (List Int)) : List (List Int) := A.map (· ++ zv w2) ++ B.map (zv w1 ++ ·)
end
end Z

namespace Z
open PySem PySem.Spec
section
variable {α β : Type} {it : DI} {g : DG} {t : DT} {b X Y : DE} {own : List Nat} {env : En} {S : Store} {Q : D → Store → Prop} {x y : D} {rows A B : List (List Int)} {l m : List Int} {n v i j : Nat} {r : DA}
theorem hi_rng (hr : r env S = .ok [.int (n : Int)] S) (hn : n ≤ 10000) {Q : Itd → Store → Prop} (q : Q (jR 0 n) S) : WP (iRng1 r env S) Q := by
  rw [rng1_items hr hn]; exact WP_ok.mpr q
end
end Z

namespace Z
open PySem PySem.Spec
section
variable {env : En} {S : Store} {t u : DT} {s s' rest : DS} {a b c o : DE} {r : DA} {op : Op2} {F : Fn} {i j k cl : Nat} {Q : Fl → Store → Prop} {QB : Bool → Store → Prop} {QD : D → Store → Prop} {x : D} {xs : List D}
theorem st_if (h : WP (t env S) fun c S1 => c = false ∧ WP (rest env S1) Q) : WP (sSeq (sIf t s sNext) rest env S) Q := by
  rw [q_seq, WP_bind, q_sif, WP_bind]
  refine WP_mono h fun c S1 ⟨e, q⟩ => ?_
  subst e
  simp only [Bool.false_eq_true, if_false, q_next, WP_ok]
  exact q
theorem st_or (h : WP (t env S) fun c S1 => c = false ∧ WP (u env S1) QB) : WP (tOr2 t u env S) QB := by
  rw [q_or2, WP_bind]
  refine WP_mono h fun c S1 ⟨e, q⟩ => ?_
  subst e
  simp only [Bool.false_eq_true, if_false]
  exact q
theorem st_not (h : WP (t env S) fun c S1 => QB (!c) S1) : WP (tNot1 t env S) QB := by
  rw [q_not1, WP_bind]
  exact WP_mono h fun c S1 q => WP_ok.mpr q
theorem st_bin (h : WP (a env S) fun x S1 => WP (b env S1) fun y S2 => ∃ z S3, op x y S2 = some (z, S3) ∧ QD z S3) : WP (dBin op a b env S) QD := by
  rw [q_bin, WP_bind]
  refine WP_mono h fun x S1 w => ?_
  rw [WP_bind]
  refine WP_mono w fun y S2 ⟨z, S3, e, q⟩ => ?_
  rw [e]
  exact WP_ok.mpr q
theorem st_cmp (h : WP (a env S) fun x S1 => WP (b env S1) fun y S2 => ∃ c S3, op x y S2 = some (.bl c, S3) ∧ QB c S3) : WP (dTstB (dBin op a b) env S) QB := by
  rw [q_tstB, WP_bind]
  refine st_bin (WP_mono h fun x S1 w => WP_mono w fun y S2 ⟨c, S3, e, q⟩ => ⟨.bl c, S3, e, WP_ok.mpr q⟩)
theorem st_tst (h : WP (a env S) fun x S1 => ∃ c, x = .bl c ∧ QB c S1) : WP (dTst a env S) QB := by
  rw [q_tst, WP_bind]
  refine WP_mono h fun x S1 ⟨c, e, q⟩ => ?_
  subst e
  exact WP_ok.mpr q
theorem st_asg (h : WP (a env S) fun x S1 => WP (rest (env.set i (some x)) S1) Q) : WP (sSeq (sAsg a (gNm i)) rest env S) Q := by
  rw [q_seq, WP_bind, q_asg, WP_bind]
  refine WP_mono h fun x S1 w => ?_
  simp only [q_gnm, Res.bind_ok, WP_ok]
  exact w
theorem st_asg2 (h : WP (a env S) fun x S1 => WP (b env S1) fun y S2 => WP (rest ((env.set i (some x)).set j (some y)) S2) Q) : WP (sSeq (sAsg (dTup (dCons a (dCons b dNil))) (gTup 2 (gCons (gNm i) (gCons (gNm j) gNil)))) rest env S) Q := w_tup2 h
theorem st_asg3 (h : WP (a env S) fun x S1 => WP (b env S1) fun y S2 => WP (c env S2) fun z S3 => WP (rest (((env.set i (some x)).set j (some y)).set k (some z)) S3) Q) : WP (sSeq (sAsg (dTup (dCons a (dCons b (dCons c dNil)))) (gTup 3 (gCons (gNm i) (gCons (gNm j) (gCons (gNm k) gNil))))) rest env S) Q := w_tup3 h
theorem st_ret (h : WP (a env S) fun x S1 => Q (.rt x) S1) : WP (sRet a env S) Q := by
  rw [q_ret, WP_bind]
  exact WP_mono h fun x S1 q => WP_ok.mpr q
theorem st_call (hr : r env S = .ok xs S) (h : WP (F xs S) QD) : WP (dCall F r env S) QD := by
  rw [q_call, hr, Res.bind_ok]; exact h
theorem st_one {QA : List D → Store → Prop} (h : WP (a env S) fun x S1 => QA [x] S1) : WP (dCons a dNil env S) QA := by
  rw [q_cons, WP_bind]
  refine WP_mono h fun x S1 q => ?_
  simp only [q_nil, Res.bind_ok, WP_ok]
  exact q
theorem st_var {d : D} (e : env[i]? = some (some d)) (q : QD d S) : WP (dVar i env S) QD := by
  rw [q_var, e]; exact WP_ok.mpr q
theorem st_ok {r : Res D} {v : D} (e : r = .ok v S) (q : QD v S) : WP r QD := by rw [e]; exact WP_ok.mpr q
end
end Z

namespace Z
section
variable {p f : Int} {n k l c w h m : Nat} {u v a b row : List Int} {L M B A C X rows : List (List Int)} {Z Y : List Pr}
theorem p1 (hp : p ∈ ([2, 3, 5, 7] : List Int)) : 1 < p := by
  have : p = 2 ∨ p = 3 ∨ p = 5 ∨ p = 7 := by simpa using hp
  omega
end
end Z

namespace Z
open PySem PySem.Spec
section
variable {p : Int} {n k : Nat} {cols : List (List Int)}
end
end Z

namespace Z
open PySem PySem.Spec
section
variable {S S' S0 : Store} {x y d e : D} {l a b : List Int} {rows A B T : List (List Int)} {Q : D → Store → Prop} {n k c w r q h i m n0 P : Nat} {p f : Int} {env : En}
theorem st_args {env : En} {S : Store} {a : DE} {r : DA} {QA : List D → Store → Prop} (h : WP (a env S) fun x S1 => WP (r env S1) fun xs S2 => QA (x :: xs) S2) : WP (dCons a r env S) QA := by
  rw [q_cons, WP_bind]
  refine WP_mono h fun x S1 w => ?_
  rw [WP_bind]
  exact WP_mono w fun xs S2 q => WP_ok.mpr q
theorem st_nil {env : En} {S : Store} {QA : List D → Store → Prop} (q : QA [] S) : WP (dNil env S) QA := by rw [q_nil]; exact WP_ok.mpr q
theorem st_callA {env : En} {S : Store} {F : Fn} {r : DA} {QD : D → Store → Prop} (h : WP (r env S) fun xs S1 => WP (F xs S1) QD) : WP (dCall F r env S) QD := by
  rw [q_call, WP_bind]; exact h
theorem st_expr {env : En} {S : Store} {a : DE} {rest : DS} {QF : Fl → Store → Prop} (h : WP (a env S) fun _ S1 => WP (rest env S1) QF) : WP (sSeq (sExpr a) rest env S) QF := by
  rw [q_seq, WP_bind, q_expr, WP_bind]
  exact WP_mono h fun x S1 q => WP_ok.mpr q
theorem st_c {env : En} {S : Store} {v : D} {QD : D → Store → Prop} (q : QD v S) : WP (dC v env S) QD := WP_ok.mpr q
theorem mk1 : mkL [D.tup []] S = .ok (.ref S.length) (S ++ [.lst [D.tup []]]) := by
  have hsl : sl = 16777216 := rfl
  exact if_pos (by rw [hsl]; decide)
theorem rngE {env : En} {r : DA} (hr : r env S = .ok [.int (n : Int)] S) (hn : n ≤ 10000) : iRng1 r env S = .ok (jR 0 n) S := by
  obtain ⟨J, S', e, e1, e2⟩ := hi_rng (Q := fun J S' => J = jR 0 n ∧ S' = S) hr hn ⟨rfl, rfl⟩
  rw [e, e1, e2]
theorem d_one {env : En} : dLst (dCons (dTup dNil) dNil) env S = .ok (.ref S.length) (S ++ [.lst [D.tup []]]) := by
  simp only [q_lst, q_cons, q_tup, q_nil, Res.bind_ok, List.length_nil, Nat.zero_le, if_true, mk1]
theorem m_extend {ds es : List D} (h : S[r]? = some (.lst ds)) (h' : S[q]? = some (.lst es)) (hl : ds.length + es.length ≤ 100000) : mExtend (.ref r) [.ref q] S = some (.non, S.set r (.lst (ds ++ es))) := by
  have hsl : sl = 16777216 := rfl
  simp only [mExtend, onL, h, h']
  rw [if_pos (by omega)]
theorem o_addTT {ds es : List D} (hl : ds.length + es.length ≤ 100000) : oAdd (.tup ds) (.tup es) S = some (.tup (ds ++ es), S) := by
  have hsl : sl = 16777216 := rfl
  have e1 : oAddI (.tup ds) (.tup es) S = none := rfl
  have e2 : oAddL (.tup ds) (.tup es) S = none := rfl
  have e3 : oAddT (.tup ds) (.tup es) S = some (.tup (ds ++ es), S) := by
    simp only [oAddT]
    rw [if_pos (by omega)]
  simp only [oAdd, orO, e1, e2, e3]
theorem sub_trans' {S1 S2 : Store} (s : Sub S S1) (k : Kp r S1 S2) (h : S.length ≤ r) : Sub S S2 := fun j o e => k j o (by have := lt_of_at e; omega) (s j o e)
theorem mkL0 : mkL [] S = .ok (.ref S.length) (S ++ [.lst []]) := by
  have hsl : sl = 16777216 := rfl
  exact if_pos (by rw [hsl]; decide)
theorem seqO_iL {k : Nat} : ∀ l : List Int, seqO ((iL l).map (toPy S k)) = some (l.map PyData.int)
  | [] => rfl
  | i :: l => by
    have ih := seqO_iL (k := k) l
    unfold iL at ih ⊢
    rw [List.map_cons, List.map_cons]
    have e1 : toPy S k (.int i) = some (.int i) := by cases k <;> rfl
    rw [e1]
    unfold seqO
    rw [ih]
    rfl
theorem py_tI {l : List Int} : toPy S 60 (.tup (iL l)) = some (.tuple (l.map PyData.int)) := by
  unfold toPy
  rw [seqO_iL]
  rfl
theorem ne_tI {l : List Int} : oNe (.tup (iL l)) (.tup (iL l)) S = some (.bl false, S) := o_neS py_tI py_tI
theorem d_nil {env : En} : dLst dNil env S = .ok (.ref S.length) (S ++ [.lst []]) := by
  simp only [q_lst, q_nil, Res.bind_ok, mkL0]
end
end Z

namespace Z
open PySem PySem.Spec
section
variable {α β : Type} {env : En} {S S' : Store} {x y z : D} {r : DA} {g : DG} {b : DE} {own : List Nat} {Q : D → Store → Prop} {QF : Fl → Store → Prop} {ro o : Nat}
theorem st_and {a c : DE} (h : WP (a env S) fun x S1 => x = .bl true ∧ WP (c env S1) Q) : WP (dAndV a c env S) Q := by
  rw [q_andV, WP_bind]
  refine WP_mono h fun x S1 ⟨e, w⟩ => ?_
  subst e
  simp only [ofB_bl, Res.bind_ok, if_true]
  exact w
theorem st_app {acc : List D} {C : DE} (ho : env[o]? = some (some (.ref ro))) (h : WP (C env S) fun y S2 => ∃ acc, S2[ro]? = some (.lst acc) ∧ acc.length ≤ 10000 ∧ QF (.nx env) (S2.set ro (.lst (acc ++ [y])))) (e1 : S[ro]? = some (.lst acc)) : WP (sExpr (dMeth isL mAppend (dVar o) (dCons C dNil)) env S) QF := by
  have hsl : sl = 16777216 := rfl
  rw [q_expr, WP_bind, q_meth, WP_bind, q_var, ho]
  refine WP_ok.mpr ?_
  rw [if_pos (isL_r e1), WP_bind, q_cons, WP_bind]
  refine WP_mono h fun y S2 ⟨acc, e2, hl, q⟩ => ?_
  rw [q_nil, Res.bind_ok]
  refine WP_ok.mpr ?_
  rw [m_append e2 (by omega)]
  exact WP_ok.mpr (WP_ok.mpr q)
end
end Z

namespace Z
section
variable {α β γ : Type}
theorem nodup_map [DecidableEq β] {F : α → β} : ∀ {l : List α}, l.Nodup → (∀ x ∈ l, ∀ y ∈ l, F x = F y → x = y) → (l.map F).Nodup
  | [], _, _ => List.nodup_nil
  | a :: l, h, inj => by
    obtain ⟨h1, h2⟩ := List.nodup_cons.mp h
    rw [List.map_cons, List.nodup_cons]
    refine ⟨fun hm => ?_, nodup_map h2 fun x hx y hy e => inj x (List.mem_cons_of_mem _ hx) y (List.mem_cons_of_mem _ hy) e⟩
    obtain ⟨b, hb, e⟩ := List.mem_map.mp hm
    have := inj b (List.mem_cons_of_mem _ hb) a List.mem_cons_self e
    exact h1 (this ▸ hb)
theorem nodup_filt {l : List α} {q : α → Bool} (h : l.Nodup) : (l.filter q).Nodup := List.Pairwise.filter _ h
end
section
variable {p f g : Int} {n k l c w h m : Nat} {u v a b row : List Int} {L M B A rows : List (List Int)} {Z Y : List Pr}
end
end Z

namespace Zk01
open PySem PySem.Spec PyProof.Rows L2 He Z
noncomputable section
def top (i : Nat) : Stmt := PySem.Challenge.pw_arrowsizes_k01_whole_numbers_and_rows.main.body.getD i (.Pass ⟨0, 0, 0, 0⟩)
def tf : Tf := []
def cs : List Ck := [ckFa (.free "tuple"),
  ckFa (.free "isinstance"),
  ckFa (.free "int"),
  ckFa (.free "bool"),
  ckFa (.glo "is_whole"),
  ckFa (.int "MOST_DIGITS" (1000000000000000000000000000000000000000000000000000000000000)),
  ckFa (.glo "is_integer"),
  ckFa (.free "all"),
  ckFa (.glo "InvalidOperation"),
  ckX0 "InvalidOperation",
  ckBi "gcd" "math.gcd",
  ckFa (.glo "common_divisor"),
  ckFa (.glo "InvalidCount"),
  ckXs .idx "InvalidCount" "value" PySem.Challenge.pw_arrowsizes_k01_whole_numbers_and_rows.main.file,
  ckFa (.free "super"),
  ckFa (.int "MAX_FACTORED" (1000000000)),
  ckFa (.glo "TooMany"),
  ckXs .ovf "TooMany" "limit" PySem.Challenge.pw_arrowsizes_k01_whole_numbers_and_rows.main.file,
  ckFa (.glo "require_factored"),
  ckFa (.glo "factors_in"),
  ckFa (.free "len"),
  ckFa (.free "set"),
  ckFa (.glo "moebius_in"),
  ckFa (.glo "moebius"),
  ckFa (.free "sorted"),
  ckFa (.glo "divisors_in"),
  ckFa (.glo "divisors"),
  ckFa (.glo "require_integer"),
  ckFa (.glo "fraction_in"),
  ckFa (.glo "fraction"),
  ckFa (.int "MOST_LENGTH" (6)),
  ckFa (.int "MOST_SIZE" (6)),
  ckFa (.glo "is_row"),
  ckFa (.glo "InvalidSizes"),
  ckX0 "InvalidSizes",
  ckFa (.glo "many_below"),
  ckFa (.int "MAX_BELOW" (3000)),
  ckFa (.free "range"),
  ckFa (.glo "rows_in"),
  ckFa (.glo "rows_below"),
  ckFa (.free "min"),
  ckFa (.free "max"),
  ckFa (.free "abs"),
  ckFa (.glo "_law_lot"),
  ckFa (.glo "_law_factors"),
  ckFa (.free "list"),
  ckFa (.glo "is_prime"),
  ckFa (.glo "_law_is_parted"),
  ckFa (.glo "_law_pull"),
  ckFa (.glo "_law_one_of"),
  ckFa (.glo "_law_integer"),
  ckFa (.glo "_law_below"),
  ckFa (.glo "_law_rows_right"),
  ckFa (.free "zip"),
  ckFa (.glo "require_count"),
  ckFa (.int "MAX_CHOSEN" (1000)),
  ckFa (.glo "binomial_in"),
  ckFa (.glo "binomial"),
  ckFa (.glo "_law_gcd"),
  ckFa (.glo "_law_fraction"),
  ckFa (.glo "_law_gcd_of"),
  ckFa (.glo "_law_reckoned"),
  ckFa (.free "str"),
  ckFa (.int "MAX_NAME" (8)),
  ckFa (.str "LETTERS" "abcdefghijklmnopqrstuvwxyz"),
  ckFa (.glo "is_name"),
  ckFa (.glo "_law_judged"),
  ckFa (.glo "law")]
def fn : List Df := [⟨fun K => ga K "is_whole", "is_whole", "is_whole", defArgs (top 16), defBody (top 16), defScope (top 16), [], []⟩,
  ⟨fun K => ga K "is_integer", "is_integer", "is_integer", defArgs (top 17), defBody (top 17), defScope (top 17), [], []⟩,
  ⟨fun K => ga K "common_divisor", "common_divisor", "common_divisor", defArgs (top 29), defBody (top 29), defScope (top 29), [], []⟩,
  ⟨fun K => ma K (ga K "InvalidCount") "__init__", "__init__", "InvalidCount.__init__", defArgs (inner (top 5) 0), defBody (inner (top 5) 0), defScope (inner (top 5) 0), [], ["__class__"]⟩,
  ⟨fun K => ma K (ga K "TooMany") "__init__", "__init__", "TooMany.__init__", defArgs (inner (top 6) 0), defBody (inner (top 6) 0), defScope (inner (top 6) 0), [], ["__class__"]⟩,
  ⟨fun K => ga K "require_factored", "require_factored", "require_factored", defArgs (top 30), defBody (top 30), defScope (top 30), [], []⟩,
  ⟨fun K => ga K "factors_in", "factors_in", "factors_in", defArgs (top 18), defBody (top 18), defScope (top 18), [], []⟩,
  ⟨fun K => ga K "moebius_in", "moebius_in", "moebius_in", defArgs (top 20), defBody (top 20), defScope (top 20), [], []⟩,
  ⟨fun K => ga K "moebius", "moebius", "moebius", defArgs (top 32), defBody (top 32), defScope (top 32), [], []⟩,
  ⟨fun K => ga K "divisors_in", "divisors_in", "divisors_in", defArgs (top 19), defBody (top 19), defScope (top 19), [], []⟩,
  ⟨fun K => ga K "divisors", "divisors", "divisors", defArgs (top 31), defBody (top 31), defScope (top 31), [], []⟩,
  ⟨fun K => ga K "require_integer", "require_integer", "require_integer", defArgs (top 26), defBody (top 26), defScope (top 26), [], []⟩,
  ⟨fun K => ga K "fraction_in", "fraction_in", "fraction_in", defArgs (top 22), defBody (top 22), defScope (top 22), [], []⟩,
  ⟨fun K => ga K "fraction", "fraction", "fraction", defArgs (top 34), defBody (top 34), defScope (top 34), [], []⟩,
  ⟨fun K => ga K "is_row", "is_row", "is_row", defArgs (top 35), defBody (top 35), defScope (top 35), [], []⟩,
  ⟨fun K => ga K "many_below", "many_below", "many_below", defArgs (top 23), defBody (top 23), defScope (top 23), [], []⟩,
  ⟨fun K => ga K "rows_in", "rows_in", "rows_in", defArgs (top 24), defBody (top 24), defScope (top 24), [], []⟩,
  ⟨fun K => ga K "rows_below", "rows_below", "rows_below", defArgs (top 36), defBody (top 36), defScope (top 36), [], []⟩,
  ⟨fun K => ga K "_law_lot", "_law_lot", "_law_lot", defArgs (top 38), defBody (top 38), defScope (top 38), [], []⟩,
  ⟨fun K => ga K "_law_factors", "_law_factors", "_law_factors", defArgs (top 45), defBody (top 45), defScope (top 45), [], []⟩,
  ⟨fun K => ga K "is_prime", "is_prime", "is_prime", defArgs (top 28), defBody (top 28), defScope (top 28), [], []⟩,
  ⟨fun K => ga K "_law_is_parted", "_law_is_parted", "_law_is_parted", defArgs (top 47), defBody (top 47), defScope (top 47), [], []⟩,
  ⟨fun K => ga K "_law_pull", "_law_pull", "_law_pull", defArgs (top 39), defBody (top 39), defScope (top 39), [], []⟩,
  ⟨fun K => ga K "_law_one_of", "_law_one_of", "_law_one_of", defArgs (top 40), defBody (top 40), defScope (top 40), [], []⟩,
  ⟨fun K => ga K "_law_integer", "_law_integer", "_law_integer", defArgs (top 46), defBody (top 46), defScope (top 46), [], []⟩,
  ⟨fun K => ga K "_law_below", "_law_below", "_law_below", defArgs (top 41), defBody (top 41), defScope (top 41), [], []⟩,
  ⟨fun K => ga K "_law_rows_right", "_law_rows_right", "_law_rows_right", defArgs (top 48), defBody (top 48), defScope (top 48), [], []⟩,
  ⟨fun K => ga K "require_count", "require_count", "require_count", defArgs (top 25), defBody (top 25), defScope (top 25), [], []⟩,
  ⟨fun K => ga K "binomial_in", "binomial_in", "binomial_in", defArgs (top 21), defBody (top 21), defScope (top 21), [], []⟩,
  ⟨fun K => ga K "binomial", "binomial", "binomial", defArgs (top 33), defBody (top 33), defScope (top 33), [], []⟩,
  ⟨fun K => ga K "_law_gcd", "_law_gcd", "_law_gcd", defArgs (top 42), defBody (top 42), defScope (top 42), [], []⟩,
  ⟨fun K => ga K "_law_fraction", "_law_fraction", "_law_fraction", defArgs (top 44), defBody (top 44), defScope (top 44), [], []⟩,
  ⟨fun K => ga K "_law_gcd_of", "_law_gcd_of", "_law_gcd_of", defArgs (top 43), defBody (top 43), defScope (top 43), [], []⟩,
  ⟨fun K => ga K "_law_reckoned", "_law_reckoned", "_law_reckoned", defArgs (top 49), defBody (top 49), defScope (top 49), [], []⟩,
  ⟨fun K => ga K "is_name", "is_name", "is_name", defArgs (top 27), defBody (top 27), defScope (top 27), [], []⟩,
  ⟨fun K => ga K "_law_judged", "_law_judged", "_law_judged", defArgs (top 50), defBody (top 50), defScope (top 50), [], []⟩,
  ⟨fun K => ga K "law", "law", "law", defArgs (top 51), defBody (top 51), defScope (top 51), [], []⟩]
def cl : List Str := ["InvalidOperation", "InvalidCount", "TooMany", "InvalidSizes"]
abbrev Hy (G : Glo) : Prop := Hyp cs fn cl tf PySem.Challenge.pw_arrowsizes_k01_whole_numbers_and_rows G
def n_is_whole : List Str := ["value"]
theorem d_is_whole : n_is_whole.Nodup := by decide +kernel
def b_is_whole : DS := (sRet (dAndV (dCallB bIsi (dCons (dVar 0) (dCons (dC (.ty "int")) dNil))) (dNotV (dCallB bIsi (dCons (dVar 0) (dCons (dC (.ty "bool")) dNil))))))
def f_is_whole : Fn := mkFn n_is_whole.length b_is_whole
theorem c_is_whole : FnScope n_is_whole ["value"] (defScope (top 16)) := ⟨by kernel_rfl, by kernel_rfl, by kernel_rfl, d_is_whole, by kernel_rfl, by decide +kernel, by decide +kernel⟩
theorem s_is_whole {G : Glo} (h : Hy G) : PSsx ⟨G, 0, n_is_whole, defScope (top 16), fun _ => true, none, false⟩ (defBody (top 16)) b_is_whole := (pssx_one (psx_ret (pex_and (pex_bf cx_isi (by kernel_rfl) (h.free 1 rfl) (pax_cons (pex_v 0 (by kernel_rfl)) (pax_cons (pex_tyn (by kernel_rfl) (h.free 2 rfl)) pax_nil))) (pex_one (pex_not (pex_bf cx_isi (by kernel_rfl) (h.free 1 rfl) (pax_cons (pex_v 0 (by kernel_rfl)) (pax_cons (pex_tyn (by kernel_rfl) (h.free 3 rfl)) pax_nil))))))))
theorem i_is_whole {G : Glo} (h : Hy G) : FnIs G 1 "is_whole" 1 f_is_whole := h.fnIs 0 4 rfl rfl rfl c_is_whole rfl (fun _ _ _ _ _ _ us hl => match us, hl with | [_], _ => by kernel_rfl) (s_is_whole h)
def n_is_integer : List Str := ["value"]
theorem d_is_integer : n_is_integer.Nodup := by decide +kernel
def b_is_integer : DS := (sRet (dAndV (dCall f_is_whole (dCons (dVar 0) dNil)) (dChain oLtI oLtI (dUn oNeg (dC (.int (1000000000000000000000000000000000000000000000000000000000000)))) (dVar 0) (dC (.int (1000000000000000000000000000000000000000000000000000000000000))))))
def f_is_integer : Fn := mkFn n_is_integer.length b_is_integer
theorem c_is_integer : FnScope n_is_integer ["value"] (defScope (top 17)) := ⟨by kernel_rfl, by kernel_rfl, by kernel_rfl, d_is_integer, by kernel_rfl, by decide +kernel, by decide +kernel⟩
theorem s_is_integer {G : Glo} (h : Hy G) : PSsx ⟨G, 1, n_is_integer, defScope (top 17), fun _ => true, none, false⟩ (defBody (top 17)) b_is_integer := (pssx_one (psx_ret (pex_and (pex_cl (i_is_whole h) (by kernel_rfl) (by kernel_rfl) (pax_cons (pex_v 0 (by kernel_rfl)) pax_nil) (ln1 ln0)) (pex_one (pex_chain opx_ltI opx_ltI (pex_un unx_neg (pex_gi (by kernel_rfl) (h.int 5 rfl))) (pex_v 0 (by kernel_rfl)) (pex_gi (by kernel_rfl) (h.int 5 rfl)) rfl)))))
theorem i_is_integer {G : Glo} (h : Hy G) : FnIs G 2 "is_integer" 1 f_is_integer := h.fnIs 1 6 rfl rfl rfl c_is_integer rfl (fun _ _ _ _ _ _ us hl => match us, hl with | [_], _ => by kernel_rfl) (s_is_integer h)
def n_common_divisor : List Str := ["numbers", "found", "number"]
theorem d_common_divisor : n_common_divisor.Nodup := by decide +kernel
def b_common_divisor : DS := (sSeq (sIf (tOr2 (tNot1 (dTst (dCallB bIsi (dCons (dVar 0) (dCons (dC (.ty "tuple")) dNil))))) (tNot1 (dTst (dCallB (b1 fAll) (dCons (dLc (iSeq (dVar 0)) (gNm 2) tYes1 (dCall f_is_integer (dCons (dVar 2) dNil)) ([("number", 2)].map (·.2))) dNil))))) (rX0 0) sNext) (sSeq (sAsg (dC (.int 0)) (gNm 1)) (sSeq (sFor (iSeq (dVar 0)) (gNm 2) (sAsg (dCallB (b2 fGcd) (dCons (dVar 1) (dCons (dVar 2) dNil))) (gNm 1))) (sRet (dVar 1)))))
def f_common_divisor : Fn := mkFn n_common_divisor.length b_common_divisor
theorem c_common_divisor : FnScope n_common_divisor ["numbers"] (defScope (top 29)) := ⟨by kernel_rfl, by kernel_rfl, by kernel_rfl, d_common_divisor, by kernel_rfl, by decide +kernel, by decide +kernel⟩
theorem s_common_divisor {G : Glo} (h : Hy G) : PSsx ⟨G, 2, n_common_divisor, defScope (top 29), fun _ => true, none, false⟩ (defBody (top 29)) b_common_divisor := (pssx_cons (psx_if (PWx.pt (pwx_or (ptx_not (ptx_truth (pex_bf cx_isi (by kernel_rfl) (h.free 1 rfl) (pax_cons (pex_v 0 (by kernel_rfl)) (pax_cons (pex_tyn (by kernel_rfl) (h.free 0 rfl)) pax_nil))))) (pwx_or1 (ptx_not (ptx_truth (pex_bf cx_all (by kernel_rfl) (h.free 7 rfl) (pax_cons (pex_lc d_common_divisor (pix_seq (pex_v 0 (by kernel_rfl))) (own := [("number", 2)]) (by kernel_rfl) (pgx_v d_common_divisor 2 (by kernel_rfl)) ptsx_nil (pex_cl (i_is_integer h) (by kernel_rfl) (by kernel_rfl) (pax_cons (pex_v 2 (by kernel_rfl)) pax_nil) (ln1 ln0)) (by decide)) pax_nil))))))) (pssx_one (psx_raise0 (h.x0 9 (c := 0) rfl rfl) (by kernel_rfl) (gc_of h 8 (c := 0) rfl rfl))) pssx_nil) (pssx_cons (psx_asg pex_int (pgx_v d_common_divisor 1 (by kernel_rfl))) (pssx_cons (psx_for (pix_seq (pex_v 0 (by kernel_rfl))) (pgx_v d_common_divisor 2 (by kernel_rfl)) (pssx_one (psx_asg (pex_bm2 cx_gcd (by kernel_rfl) (h.bi 10 rfl) (pax_cons (pex_v 1 (by kernel_rfl)) (pax_cons (pex_v 2 (by kernel_rfl)) pax_nil))) (pgx_v d_common_divisor 1 (by kernel_rfl))))) (pssx_one (psx_ret (pex_v 1 (by kernel_rfl)))))))
theorem i_common_divisor {G : Glo} (h : Hy G) : FnIs G 3 "common_divisor" 1 f_common_divisor := h.fnIs 2 11 rfl rfl rfl c_common_divisor rfl (fun _ _ _ _ _ _ us hl => match us, hl with | [_], _ => by kernel_rfl) (s_common_divisor h)
theorem sh_InvalidCount : XsShape (defArgs (inner (top 5) 0)) (defBody (inner (top 5) 0)) (defScope (inner (top 5) 0)) "value" "value" "the number is out of its bounds" := xs_shape (by kernel_rfl) (by kernel_rfl) (by kernel_rfl) (by intros; kernel_rfl)
theorem x_InvalidCount {G : Glo} (h : Hy G) : XsC G.P G.K (G.ad 1) "value" "value" "the number is out of its bounds" := h.xs 13 3 (b := .idx) (x := "InvalidCount") rfl rfl rfl rfl sh_InvalidCount
theorem sh_TooMany : XsShape (defArgs (inner (top 6) 0)) (defBody (inner (top 6) 0)) (defScope (inner (top 6) 0)) "limit" "limit" "a limit is passed" := xs_shape (by kernel_rfl) (by kernel_rfl) (by kernel_rfl) (by intros; kernel_rfl)
theorem x_TooMany {G : Glo} (h : Hy G) : XsC G.P G.K (G.ad 2) "limit" "limit" "a limit is passed" := h.xs 17 4 (b := .ovf) (x := "TooMany") rfl rfl rfl rfl sh_TooMany
def n_require_factored : List Str := ["value"]
theorem d_require_factored : n_require_factored.Nodup := by decide +kernel
def b_require_factored : DS := (sSeq (sIf (tOr2 (tNot1 (dTst (dCall f_is_integer (dCons (dVar 0) dNil)))) (dTstB (dBin oLtI (dVar 0) (dC (.int 1))))) (rX1 1 "value" (dVar 0)) sNext) (sIf (dTstB (dBin oGtI (dVar 0) (dC (.int (1000000000))))) (rX1 2 "limit" (dC (.int (1000000000)))) sNext))
def f_require_factored : Fn := mkFn n_require_factored.length b_require_factored
theorem c_require_factored : FnScope n_require_factored ["value"] (defScope (top 30)) := ⟨by kernel_rfl, by kernel_rfl, by kernel_rfl, d_require_factored, by kernel_rfl, by decide +kernel, by decide +kernel⟩
theorem s_require_factored {G : Glo} (h : Hy G) : PSsx ⟨G, 2, n_require_factored, defScope (top 30), fun _ => true, none, false⟩ (defBody (top 30)) b_require_factored := (pssx_cons (psx_if (PWx.pt (pwx_or (ptx_not (ptx_truth (pex_cl (i_is_integer h) (by kernel_rfl) (by kernel_rfl) (pax_cons (pex_v 0 (by kernel_rfl)) pax_nil) (ln1 ln0)))) (pwx_or1 (ptx_cmp opx_ltI (pex_v 0 (by kernel_rfl)) pex_int rfl)))) (pssx_one (psx_raise1 (x_InvalidCount h) (by kernel_rfl) (gc_of h 12 (c := 1) rfl rfl) (h.free 14 rfl) (htop h (by kernel_rfl)) (by kernel_rfl) (pex_v 0 (by kernel_rfl)))) pssx_nil) (pssx_one (psx_if (ptx_cmp opx_gtI (pex_v 0 (by kernel_rfl)) (pex_gi (by kernel_rfl) (h.int 15 rfl)) rfl) (pssx_one (psx_raise1 (x_TooMany h) (by kernel_rfl) (gc_of h 16 (c := 2) rfl rfl) (h.free 14 rfl) (htop h (by kernel_rfl)) (by kernel_rfl) (pex_gi (by kernel_rfl) (h.int 15 rfl)))) pssx_nil)))
theorem i_require_factored {G : Glo} (h : Hy G) : FnIs G 3 "require_factored" 1 f_require_factored := h.fnIs 5 18 rfl rfl rfl c_require_factored rfl (fun _ _ _ _ _ _ us hl => match us, hl with | [_], _ => by kernel_rfl) (s_require_factored h)
def n_factors_in : List Str := ["number", "found", "left", "factor"]
theorem d_factors_in : n_factors_in.Nodup := by decide +kernel
def b_factors_in : DS := (sSeq (sAsg (dTup (dCons (dLst dNil) (dCons (dVar 0) (dCons (dC (.int 2)) dNil)))) (gTup 3 (gCons (gNm 1) (gCons (gNm 2) (gCons (gNm 3) gNil))))) (sSeq (sWhile (dTstB (dBin oLeI (dBin oMulA (dVar 3) (dVar 3)) (dVar 2))) (sSeq (sWhile (dTstB (dBin oEq (dBin oModI (dVar 2) (dVar 3)) (dC (.int 0)))) (sSeq (sExpr (dMeth isL mAppend (dVar 1) (dCons (dVar 3) dNil))) (sAug 2 oDivI (dVar 3)))) (sAug 3 oAddI (dC (.int 1))))) (sSeq (sIf (dTstB (dBin oGtI (dVar 2) (dC (.int 1)))) (sExpr (dMeth isL mAppend (dVar 1) (dCons (dVar 2) dNil))) sNext) (sRet (dVar 1)))))
def f_factors_in : Fn := mkFn n_factors_in.length b_factors_in
theorem c_factors_in : FnScope n_factors_in ["number"] (defScope (top 18)) := ⟨by kernel_rfl, by kernel_rfl, by kernel_rfl, d_factors_in, by kernel_rfl, by decide +kernel, by decide +kernel⟩
theorem s_factors_in {G : Glo} (h : Hy G) : PSsx ⟨G, 0, n_factors_in, defScope (top 18), fun _ => true, none, false⟩ (defBody (top 18)) b_factors_in := (pssx_cons (psx_par3 (i := 1) (j := 2) (l := 3) d_factors_in (by kernel_rfl) (by kernel_rfl) (by kernel_rfl) (by decide) (by decide) (by decide) (by kernel_rfl) (by kernel_rfl) (by kernel_rfl) (pax_cons (pex_lst pax_nil) (pax_cons (pex_v 0 (by kernel_rfl)) (pax_cons pex_int pax_nil))) (fun env he => by cases env; dsimp only at he; subst he; kernel_rfl)) (pssx_cons (psx_while (ptx_cmp opx_leI (pex_op opx_mulA (pex_v 3 (by kernel_rfl)) (pex_v 3 (by kernel_rfl))) (pex_v 2 (by kernel_rfl)) rfl) (pssx_cons (psx_while (ptx_cmp opx_eq (pex_op opx_modI (pex_v 2 (by kernel_rfl)) (pex_v 3 (by kernel_rfl))) pex_int rfl) (pssx_cons (psx_expr (pex_bm PySem.F.plainAttrs_list PySem.F.slot_list_append PySem.F.type_list_append mtx_append hckL (pex_v 1 (by kernel_rfl)) (pax_cons (pex_v 3 (by kernel_rfl)) pax_nil))) (pssx_one (psx_augv d_factors_in 2 (by kernel_rfl) ipx_div (pex_v 3 (by kernel_rfl)))))) (pssx_one (psx_augv d_factors_in 3 (by kernel_rfl) ipx_add pex_int)))) (pssx_cons (psx_if (ptx_cmp opx_gtI (pex_v 2 (by kernel_rfl)) pex_int rfl) (pssx_one (psx_expr (pex_bm PySem.F.plainAttrs_list PySem.F.slot_list_append PySem.F.type_list_append mtx_append hckL (pex_v 1 (by kernel_rfl)) (pax_cons (pex_v 2 (by kernel_rfl)) pax_nil)))) pssx_nil) (pssx_one (psx_ret (pex_v 1 (by kernel_rfl)))))))
theorem i_factors_in {G : Glo} (h : Hy G) : FnIs G 1 "factors_in" 1 f_factors_in := h.fnIs 6 19 rfl rfl rfl c_factors_in rfl (fun _ _ _ _ _ _ us hl => match us, hl with | [_], _ => by kernel_rfl) (s_factors_in h)
def n_moebius_in : List Str := ["number", "factors"]
theorem d_moebius_in : n_moebius_in.Nodup := by decide +kernel
def b_moebius_in : DS := (sSeq (sAsg (dCall f_factors_in (dCons (dVar 0) dNil)) (gNm 1)) (sSeq (sIf (dTstB (dBin oLtI (dLenW (dVar 1)) (dCallB (b1 fLen) (dCons (dVar 1) dNil)))) (sRet (dC (.int 0))) sNext) (sRet (dIf (dTstB (dBin oEq (dBin oModI (dCallB (b1 fLen) (dCons (dVar 1) dNil)) (dC (.int 2))) (dC (.int 1)))) (dUn oNeg (dC (.int 1))) (dC (.int 1))))))
def f_moebius_in : Fn := mkFn n_moebius_in.length b_moebius_in
theorem c_moebius_in : FnScope n_moebius_in ["number"] (defScope (top 20)) := ⟨by kernel_rfl, by kernel_rfl, by kernel_rfl, d_moebius_in, by kernel_rfl, by decide +kernel, by decide +kernel⟩
theorem s_moebius_in {G : Glo} (h : Hy G) : PSsx ⟨G, 1, n_moebius_in, defScope (top 20), fun _ => true, none, false⟩ (defBody (top 20)) b_moebius_in := (pssx_cons (psx_asg (pex_cl (i_factors_in h) (by kernel_rfl) (by kernel_rfl) (pax_cons (pex_v 0 (by kernel_rfl)) pax_nil) (ln1 ln0)) (pgx_v d_moebius_in 1 (by kernel_rfl))) (pssx_cons (psx_if (ptx_cmp opx_ltI (pex_lenW (by kernel_rfl) (h.free 20 rfl) (by kernel_rfl) (h.free 21 rfl) (pex_v 1 (by kernel_rfl))) (pex_bf cx_len (by kernel_rfl) (h.free 20 rfl) (pax_cons (pex_v 1 (by kernel_rfl)) pax_nil)) rfl) (pssx_one (psx_ret pex_int)) pssx_nil) (pssx_one (psx_ret (pex_if (ptx_cmp opx_eq (pex_op opx_modI (pex_bf cx_len (by kernel_rfl) (h.free 20 rfl) (pax_cons (pex_v 1 (by kernel_rfl)) pax_nil)) pex_int) pex_int rfl) (pex_un unx_neg pex_int) pex_int)))))
theorem i_moebius_in {G : Glo} (h : Hy G) : FnIs G 2 "moebius_in" 1 f_moebius_in := h.fnIs 7 22 rfl rfl rfl c_moebius_in rfl (fun _ _ _ _ _ _ us hl => match us, hl with | [_], _ => by kernel_rfl) (s_moebius_in h)
def n_moebius : List Str := ["number"]
theorem d_moebius : n_moebius.Nodup := by decide +kernel
def b_moebius : DS := (sSeq (sExpr (dCall f_require_factored (dCons (dVar 0) dNil))) (sRet (dCall f_moebius_in (dCons (dVar 0) dNil))))
def f_moebius : Fn := mkFn n_moebius.length b_moebius
theorem c_moebius : FnScope n_moebius ["number"] (defScope (top 32)) := ⟨by kernel_rfl, by kernel_rfl, by kernel_rfl, d_moebius, by kernel_rfl, by decide +kernel, by decide +kernel⟩
theorem s_moebius {G : Glo} (h : Hy G) : PSsx ⟨G, 3, n_moebius, defScope (top 32), fun _ => true, none, false⟩ (defBody (top 32)) b_moebius := (pssx_cons (psx_expr (pex_cl (i_require_factored h) (by kernel_rfl) (by kernel_rfl) (pax_cons (pex_v 0 (by kernel_rfl)) pax_nil) (ln1 ln0))) (pssx_one (psx_ret (pex_cl (i_moebius_in h) (by kernel_rfl) (by kernel_rfl) (pax_cons (pex_v 0 (by kernel_rfl)) pax_nil) (ln1 ln0)))))
theorem i_moebius {G : Glo} (h : Hy G) : FnIs G 4 "moebius" 1 f_moebius := h.fnIs 8 23 rfl rfl rfl c_moebius rfl (fun _ _ _ _ _ _ us hl => match us, hl with | [_], _ => by kernel_rfl) (s_moebius h)
def n_divisors_in : List Str := ["number", "found", "prime", "part"]
theorem d_divisors_in : n_divisors_in.Nodup := by decide +kernel
def b_divisors_in : DS := (sSeq (sAsg (dDisp (dpCons (dC (.int 1)) (dC (.bl true)) dpNil)) (gNm 1)) (sSeq (sFor (iSeq (dCall f_factors_in (dCons (dVar 0) dNil))) (gNm 2) (sExpr (dMeth isD mUpdate (dVar 1) (dCons (dLk 1 (dLc (iLk 1) (gNm 3) tYes1 (dTup (dCons (dBin oMulA (dVar 2) (dVar 3)) (dCons (dC (.bl true)) dNil))) ([("part", 3)].map (·.2)))) dNil)))) (sRet (dCallB (orB (b1 fSortI) (orB (b1 fSortL) (b1 fSortD))) (dCons (dVar 1) dNil)))))
def f_divisors_in : Fn := mkFn n_divisors_in.length b_divisors_in
theorem c_divisors_in : FnScope n_divisors_in ["number"] (defScope (top 19)) := ⟨by kernel_rfl, by kernel_rfl, by kernel_rfl, d_divisors_in, by kernel_rfl, by decide +kernel, by decide +kernel⟩
theorem s_divisors_in {G : Glo} (h : Hy G) : PSsx ⟨G, 1, n_divisors_in, defScope (top 19), fun _ => true, none, false⟩ (defBody (top 19)) b_divisors_in := (pssx_cons (psx_asg (pex_disp (ppx_cons pex_int pex_bl ppx_nil) (by kernel_rfl) (by kernel_rfl) (fun z => nomatch z) (Nat.le_of_ble_eq_true (by kernel_rfl))) (pgx_v d_divisors_in 1 (by kernel_rfl))) (pssx_cons (psx_for (pix_seq (pex_cl (i_factors_in h) (by kernel_rfl) (by kernel_rfl) (pax_cons (pex_v 0 (by kernel_rfl)) pax_nil) (ln1 ln0))) (pgx_v d_divisors_in 2 (by kernel_rfl)) (pssx_one (psx_expr (pex_bm PySem.F.plainAttrs_dict PySem.F.slot_dict_update PySem.F.type_dict_update mtx_update hckD (pex_v 1 (by kernel_rfl)) (pax_cons (pex_lock 1 (pex_lc d_divisors_in (pix_lk 1 (by kernel_rfl) (by kernel_rfl)) (own := [("part", 3)]) (by kernel_rfl) (pgx_v d_divisors_in 3 (by kernel_rfl)) ptsx_nil (pex_tup (pax_cons (pex_op opx_mulA (pex_v 2 (by kernel_rfl)) (pex_v 3 (by kernel_rfl))) (pax_cons pex_bl pax_nil))) (by decide))) pax_nil))))) (pssx_one (psx_ret (pex_bf cx_sortILD (by kernel_rfl) (h.free 24 rfl) (pax_cons (pex_v 1 (by kernel_rfl)) pax_nil))))))
theorem i_divisors_in {G : Glo} (h : Hy G) : FnIs G 2 "divisors_in" 1 f_divisors_in := h.fnIs 9 25 rfl rfl rfl c_divisors_in rfl (fun _ _ _ _ _ _ us hl => match us, hl with | [_], _ => by kernel_rfl) (s_divisors_in h)
def n_divisors : List Str := ["number"]
theorem d_divisors : n_divisors.Nodup := by decide +kernel
def b_divisors : DS := (sSeq (sExpr (dCall f_require_factored (dCons (dVar 0) dNil))) (sRet (dCallB (b1 fTuple) (dCons (dCall f_divisors_in (dCons (dVar 0) dNil)) dNil))))
def f_divisors : Fn := mkFn n_divisors.length b_divisors
theorem c_divisors : FnScope n_divisors ["number"] (defScope (top 31)) := ⟨by kernel_rfl, by kernel_rfl, by kernel_rfl, d_divisors, by kernel_rfl, by decide +kernel, by decide +kernel⟩
theorem s_divisors {G : Glo} (h : Hy G) : PSsx ⟨G, 3, n_divisors, defScope (top 31), fun _ => true, none, false⟩ (defBody (top 31)) b_divisors := (pssx_cons (psx_expr (pex_cl (i_require_factored h) (by kernel_rfl) (by kernel_rfl) (pax_cons (pex_v 0 (by kernel_rfl)) pax_nil) (ln1 ln0))) (pssx_one (psx_ret (pex_bt cx_tuple (by kernel_rfl) (h.free 0 rfl) (pax_cons (pex_cl (i_divisors_in h) (by kernel_rfl) (by kernel_rfl) (pax_cons (pex_v 0 (by kernel_rfl)) pax_nil) (ln1 ln0)) pax_nil)))))
theorem i_divisors {G : Glo} (h : Hy G) : FnIs G 4 "divisors" 1 f_divisors := h.fnIs 10 26 rfl rfl rfl c_divisors rfl (fun _ _ _ _ _ _ us hl => match us, hl with | [_], _ => by kernel_rfl) (s_divisors h)
def n_require_integer : List Str := ["value"]
theorem d_require_integer : n_require_integer.Nodup := by decide +kernel
def b_require_integer : DS := (sIf (tNot1 (dTst (dCall f_is_integer (dCons (dVar 0) dNil)))) (rX1 1 "value" (dVar 0)) sNext)
def f_require_integer : Fn := mkFn n_require_integer.length b_require_integer
theorem c_require_integer : FnScope n_require_integer ["value"] (defScope (top 26)) := ⟨by kernel_rfl, by kernel_rfl, by kernel_rfl, d_require_integer, by kernel_rfl, by decide +kernel, by decide +kernel⟩
theorem s_require_integer {G : Glo} (h : Hy G) : PSsx ⟨G, 2, n_require_integer, defScope (top 26), fun _ => true, none, false⟩ (defBody (top 26)) b_require_integer := (pssx_one (psx_if (ptx_not (ptx_truth (pex_cl (i_is_integer h) (by kernel_rfl) (by kernel_rfl) (pax_cons (pex_v 0 (by kernel_rfl)) pax_nil) (ln1 ln0)))) (pssx_one (psx_raise1 (x_InvalidCount h) (by kernel_rfl) (gc_of h 12 (c := 1) rfl rfl) (h.free 14 rfl) (htop h (by kernel_rfl)) (by kernel_rfl) (pex_v 0 (by kernel_rfl)))) pssx_nil))
theorem i_require_integer {G : Glo} (h : Hy G) : FnIs G 3 "require_integer" 1 f_require_integer := h.fnIs 11 27 rfl rfl rfl c_require_integer rfl (fun _ _ _ _ _ _ us hl => match us, hl with | [_], _ => by kernel_rfl) (s_require_integer h)
def n_fraction_in : List Str := ["top", "bottom", "shared"]
theorem d_fraction_in : n_fraction_in.Nodup := by decide +kernel
def b_fraction_in : DS := (sSeq (sAsg (dCallB (b2 fGcd) (dCons (dVar 0) (dCons (dVar 1) dNil))) (gNm 2)) (sSeq (sIf (dTstB (dBin oLtI (dVar 1) (dC (.int 0)))) (sAsg (dUn oNeg (dVar 2)) (gNm 2)) sNext) (sRet (dTup (dCons (dBin (orO oDivI oDivN) (dVar 0) (dVar 2)) (dCons (dBin (orO oDivI oDivN) (dVar 1) (dVar 2)) dNil))))))
def f_fraction_in : Fn := mkFn n_fraction_in.length b_fraction_in
theorem c_fraction_in : FnScope n_fraction_in ["top", "bottom"] (defScope (top 22)) := ⟨by kernel_rfl, by kernel_rfl, by kernel_rfl, d_fraction_in, by kernel_rfl, by decide +kernel, by decide +kernel⟩
theorem s_fraction_in {G : Glo} (h : Hy G) : PSsx ⟨G, 0, n_fraction_in, defScope (top 22), fun _ => true, none, false⟩ (defBody (top 22)) b_fraction_in := (pssx_cons (psx_asg (pex_bm2 cx_gcd (by kernel_rfl) (h.bi 10 rfl) (pax_cons (pex_v 0 (by kernel_rfl)) (pax_cons (pex_v 1 (by kernel_rfl)) pax_nil))) (pgx_v d_fraction_in 2 (by kernel_rfl))) (pssx_cons (psx_if (ptx_cmp opx_ltI (pex_v 1 (by kernel_rfl)) pex_int rfl) (pssx_one (psx_asg (pex_un unx_neg (pex_v 2 (by kernel_rfl))) (pgx_v d_fraction_in 2 (by kernel_rfl)))) pssx_nil) (pssx_one (psx_ret (pex_tup (pax_cons (pex_op opx_divX (pex_v 0 (by kernel_rfl)) (pex_v 2 (by kernel_rfl))) (pax_cons (pex_op opx_divX (pex_v 1 (by kernel_rfl)) (pex_v 2 (by kernel_rfl))) pax_nil)))))))
theorem i_fraction_in {G : Glo} (h : Hy G) : FnIs G 1 "fraction_in" 2 f_fraction_in := h.fnIs 12 28 rfl rfl rfl c_fraction_in rfl (fun _ _ _ _ _ _ us hl => match us, hl with | [_, _], _ => by kernel_rfl) (s_fraction_in h)
def n_fraction : List Str := ["top", "bottom"]
theorem d_fraction : n_fraction.Nodup := by decide +kernel
def b_fraction : DS := (sSeq (sExpr (dCall f_require_integer (dCons (dVar 0) dNil))) (sSeq (sIf (tOr2 (tNot1 (dTst (dCall f_is_integer (dCons (dVar 1) dNil)))) (dTstB (dBin oEq (dVar 1) (dC (.int 0))))) (rX1 1 "value" (dVar 1)) sNext) (sRet (dCall f_fraction_in (dCons (dVar 0) (dCons (dVar 1) dNil))))))
def f_fraction : Fn := mkFn n_fraction.length b_fraction
theorem c_fraction : FnScope n_fraction ["top", "bottom"] (defScope (top 34)) := ⟨by kernel_rfl, by kernel_rfl, by kernel_rfl, d_fraction, by kernel_rfl, by decide +kernel, by decide +kernel⟩
theorem s_fraction {G : Glo} (h : Hy G) : PSsx ⟨G, 3, n_fraction, defScope (top 34), fun _ => true, none, false⟩ (defBody (top 34)) b_fraction := (pssx_cons (psx_expr (pex_cl (i_require_integer h) (by kernel_rfl) (by kernel_rfl) (pax_cons (pex_v 0 (by kernel_rfl)) pax_nil) (ln1 ln0))) (pssx_cons (psx_if (PWx.pt (pwx_or (ptx_not (ptx_truth (pex_cl (i_is_integer h) (by kernel_rfl) (by kernel_rfl) (pax_cons (pex_v 1 (by kernel_rfl)) pax_nil) (ln1 ln0)))) (pwx_or1 (ptx_cmp opx_eq (pex_v 1 (by kernel_rfl)) pex_int rfl)))) (pssx_one (psx_raise1 (x_InvalidCount h) (by kernel_rfl) (gc_of h 12 (c := 1) rfl rfl) (h.free 14 rfl) (htop h (by kernel_rfl)) (by kernel_rfl) (pex_v 1 (by kernel_rfl)))) pssx_nil) (pssx_one (psx_ret (pex_cl (i_fraction_in h) (by kernel_rfl) (by kernel_rfl) (pax_cons (pex_v 0 (by kernel_rfl)) (pax_cons (pex_v 1 (by kernel_rfl)) pax_nil)) (ln1 (ln1 ln0)))))))
theorem i_fraction {G : Glo} (h : Hy G) : FnIs G 4 "fraction" 2 f_fraction := h.fnIs 13 29 rfl rfl rfl c_fraction rfl (fun _ _ _ _ _ _ us hl => match us, hl with | [_, _], _ => by kernel_rfl) (s_fraction h)
def n_is_row : List Str := ["value", "size"]
theorem d_is_row : n_is_row.Nodup := by decide +kernel
def b_is_row : DS := (sSeq (sIf (tOr2 (tNot1 (dTst (dCallB bIsi (dCons (dVar 0) (dCons (dC (.ty "tuple")) dNil))))) (tNot1 (dTstB (dChain oLeI oLeI (dC (.int 1)) (dCallB (b1 fLen) (dCons (dVar 0) dNil)) (dC (.int (6))))))) (sRet (dC (.bl false))) sNext) (sRet (dCallB (b1 fAll) (dCons (dLc (iSeq (dVar 0)) (gNm 1) tYes1 (dAndV (dCall f_is_whole (dCons (dVar 1) dNil)) (dChain oLeI oLeI (dC (.int 0)) (dVar 1) (dC (.int (6))))) ([("size", 1)].map (·.2))) dNil))))
def f_is_row : Fn := mkFn n_is_row.length b_is_row
theorem c_is_row : FnScope n_is_row ["value"] (defScope (top 35)) := ⟨by kernel_rfl, by kernel_rfl, by kernel_rfl, d_is_row, by kernel_rfl, by decide +kernel, by decide +kernel⟩
theorem s_is_row {G : Glo} (h : Hy G) : PSsx ⟨G, 1, n_is_row, defScope (top 35), fun _ => true, none, false⟩ (defBody (top 35)) b_is_row := (pssx_cons (psx_if (PWx.pt (pwx_or (ptx_not (ptx_truth (pex_bf cx_isi (by kernel_rfl) (h.free 1 rfl) (pax_cons (pex_v 0 (by kernel_rfl)) (pax_cons (pex_tyn (by kernel_rfl) (h.free 0 rfl)) pax_nil))))) (pwx_or1 (ptx_not (ptx_chain opx_leI opx_leI pex_int (pex_bf cx_len (by kernel_rfl) (h.free 20 rfl) (pax_cons (pex_v 0 (by kernel_rfl)) pax_nil)) (pex_gi (by kernel_rfl) (h.int 30 rfl)) rfl))))) (pssx_one (psx_ret pex_bl)) pssx_nil) (pssx_one (psx_ret (pex_bf cx_all (by kernel_rfl) (h.free 7 rfl) (pax_cons (pex_lc d_is_row (pix_seq (pex_v 0 (by kernel_rfl))) (own := [("size", 1)]) (by kernel_rfl) (pgx_v d_is_row 1 (by kernel_rfl)) ptsx_nil (pex_and (pex_cl (i_is_whole h) (by kernel_rfl) (by kernel_rfl) (pax_cons (pex_v 1 (by kernel_rfl)) pax_nil) (ln1 ln0)) (pex_one (pex_chain opx_leI opx_leI pex_int (pex_v 1 (by kernel_rfl)) (pex_gi (by kernel_rfl) (h.int 31 rfl)) rfl))) (by decide)) pax_nil)))))
theorem i_is_row {G : Glo} (h : Hy G) : FnIs G 2 "is_row" 1 f_is_row := h.fnIs 14 32 rfl rfl rfl c_is_row rfl (fun _ _ _ _ _ _ us hl => match us, hl with | [_], _ => by kernel_rfl) (s_is_row h)
def n_many_below : List Str := ["sizes", "found", "size"]
theorem d_many_below : n_many_below.Nodup := by decide +kernel
def b_many_below : DS := (sSeq (sAsg (dC (.int 1)) (gNm 1)) (sSeq (sFor (iSeq (dVar 0)) (gNm 2) (sAug 1 oIMul (dBin oAdd (dVar 2) (dC (.int 1))))) (sRet (dVar 1))))
def f_many_below : Fn := mkFn n_many_below.length b_many_below
theorem c_many_below : FnScope n_many_below ["sizes"] (defScope (top 23)) := ⟨by kernel_rfl, by kernel_rfl, by kernel_rfl, d_many_below, by kernel_rfl, by decide +kernel, by decide +kernel⟩
theorem s_many_below {G : Glo} (h : Hy G) : PSsx ⟨G, 0, n_many_below, defScope (top 23), fun _ => true, none, false⟩ (defBody (top 23)) b_many_below := (pssx_cons (psx_asg pex_int (pgx_v d_many_below 1 (by kernel_rfl))) (pssx_cons (psx_for (pix_seq (pex_v 0 (by kernel_rfl))) (pgx_v d_many_below 2 (by kernel_rfl)) (pssx_one (psx_augv d_many_below 1 (by kernel_rfl) ipx_mul (pex_op opx_add (pex_v 2 (by kernel_rfl)) pex_int)))) (pssx_one (psx_ret (pex_v 1 (by kernel_rfl))))))
theorem i_many_below {G : Glo} (h : Hy G) : FnIs G 1 "many_below" 1 f_many_below := h.fnIs 15 35 rfl rfl rfl c_many_below rfl (fun _ _ _ _ _ _ us hl => match us, hl with | [_], _ => by kernel_rfl) (s_many_below h)
def n_rows_in : List Str := ["sizes", "found", "size", "row", "more"]
theorem d_rows_in : n_rows_in.Nodup := by decide +kernel
def b_rows_in : DS := (sSeq (sAsg (dLst (dCons (dTup dNil) dNil)) (gNm 1)) (sSeq (sFor (iSeq (dVar 0)) (gNm 2) (sAsg (dLc2 (iSeq (dVar 1)) (gNm 3) tYes1 (iRng1 (dCons (dBin oAdd (dVar 2) (dC (.int 1))) dNil)) (gNm 4) tYes1 (dTup (dStar (dVar 3) (dCons (dVar 4) dNil))) ([("row", 3), ("more", 4)].map (·.2)) [4]) (gNm 1))) (sRet (dVar 1))))
def f_rows_in : Fn := mkFn n_rows_in.length b_rows_in
theorem c_rows_in : FnScope n_rows_in ["sizes"] (defScope (top 24)) := ⟨by kernel_rfl, by kernel_rfl, by kernel_rfl, d_rows_in, by kernel_rfl, by decide +kernel, by decide +kernel⟩
theorem s_rows_in {G : Glo} (h : Hy G) : PSsx ⟨G, 0, n_rows_in, defScope (top 24), fun _ => true, none, false⟩ (defBody (top 24)) b_rows_in := (pssx_cons (psx_asg (pex_lst (pax_cons (pex_tup pax_nil) pax_nil)) (pgx_v d_rows_in 1 (by kernel_rfl))) (pssx_cons (psx_for (pix_seq (pex_v 0 (by kernel_rfl))) (pgx_v d_rows_in 2 (by kernel_rfl)) (pssx_one (psx_setLc2 1 d_rows_in (by kernel_rfl) (by kernel_rfl) (pix_seq (pex_v 1 (by kernel_rfl))) (own := [("row", 3), ("more", 4)]) (by kernel_rfl) (pgx_v d_rows_in 3 (by kernel_rfl)) ptsx_nil (pix_range1 (by kernel_rfl) (h.free 37 rfl) (pax_cons (pex_op opx_add (pex_v 2 (by kernel_rfl)) pex_int) pax_nil)) (pgx_v d_rows_in 4 (by kernel_rfl)) ptsx_nil (pex_tup (pax_star (pex_v 3 (by kernel_rfl)) (pax_cons (pex_v 4 (by kernel_rfl)) pax_nil))) (by decide) (by decide) (by kernel_rfl) (by kernel_rfl) (by kernel_rfl)))) (pssx_one (psx_ret (pex_v 1 (by kernel_rfl))))))
theorem i_rows_in {G : Glo} (h : Hy G) : FnIs G 1 "rows_in" 1 f_rows_in := h.fnIs 16 38 rfl rfl rfl c_rows_in rfl (fun _ _ _ _ _ _ us hl => match us, hl with | [_], _ => by kernel_rfl) (s_rows_in h)
def n_rows_below : List Str := ["sizes"]
theorem d_rows_below : n_rows_below.Nodup := by decide +kernel
def b_rows_below : DS := (sSeq (sIf (tNot1 (dTst (dCall f_is_row (dCons (dVar 0) dNil)))) (rX0 3) sNext) (sSeq (sIf (dTstB (dBin oGtI (dCall f_many_below (dCons (dVar 0) dNil)) (dC (.int (3000))))) (rX1 2 "limit" (dC (.int (3000)))) sNext) (sRet (dCallB (b1 fTuple) (dCons (dCall f_rows_in (dCons (dVar 0) dNil)) dNil)))))
def f_rows_below : Fn := mkFn n_rows_below.length b_rows_below
theorem c_rows_below : FnScope n_rows_below ["sizes"] (defScope (top 36)) := ⟨by kernel_rfl, by kernel_rfl, by kernel_rfl, d_rows_below, by kernel_rfl, by decide +kernel, by decide +kernel⟩
theorem s_rows_below {G : Glo} (h : Hy G) : PSsx ⟨G, 2, n_rows_below, defScope (top 36), fun _ => true, none, false⟩ (defBody (top 36)) b_rows_below := (pssx_cons (psx_if (ptx_not (ptx_truth (pex_cl (i_is_row h) (by kernel_rfl) (by kernel_rfl) (pax_cons (pex_v 0 (by kernel_rfl)) pax_nil) (ln1 ln0)))) (pssx_one (psx_raise0 (h.x0 34 (c := 3) rfl rfl) (by kernel_rfl) (gc_of h 33 (c := 3) rfl rfl))) pssx_nil) (pssx_cons (psx_if (ptx_cmp opx_gtI (pex_cl (i_many_below h) (by kernel_rfl) (by kernel_rfl) (pax_cons (pex_v 0 (by kernel_rfl)) pax_nil) (ln1 ln0)) (pex_gi (by kernel_rfl) (h.int 36 rfl)) rfl) (pssx_one (psx_raise1 (x_TooMany h) (by kernel_rfl) (gc_of h 16 (c := 2) rfl rfl) (h.free 14 rfl) (htop h (by kernel_rfl)) (by kernel_rfl) (pex_gi (by kernel_rfl) (h.int 36 rfl)))) pssx_nil) (pssx_one (psx_ret (pex_bt cx_tuple (by kernel_rfl) (h.free 0 rfl) (pax_cons (pex_cl (i_rows_in h) (by kernel_rfl) (by kernel_rfl) (pax_cons (pex_v 0 (by kernel_rfl)) pax_nil) (ln1 ln0)) pax_nil))))))
theorem i_rows_below {G : Glo} (h : Hy G) : FnIs G 3 "rows_below" 1 f_rows_below := h.fnIs 17 39 rfl rfl rfl c_rows_below rfl (fun _ _ _ _ _ _ us hl => match us, hl with | [_], _ => by kernel_rfl) (s_rows_below h)
def tail_law : DS := (sSeq (sAsg (dLst (dCons (dCall f_divisors (dCons (dC (.int 12)) dNil)) (dCons (dCall f_moebius (dCons (dC (.int 1)) dNil)) (dCons (dCall f_moebius (dCons (dC (.int 12)) dNil)) (dCons (dCall f_moebius (dCons (dC (.int 30)) dNil)) (dCons (dCall f_common_divisor (dCons (dTup dNil) dNil)) (dCons (dCall f_common_divisor (dCons (dTup (dCons (dC (.int 12)) (dCons (dUn oNeg (dC (.int 18))) (dCons (dC (.int 0)) dNil)))) dNil)) dNil))))))) (gNm 3)) (sSeq (sIf (tOr2 (dTstB (dBin oNe (dVar 3) (dLst (dCons (dTup (dCons (dC (.int 1)) (dCons (dC (.int 2)) (dCons (dC (.int 3)) (dCons (dC (.int 4)) (dCons (dC (.int 6)) (dCons (dC (.int 12)) dNil))))))) (dCons (dC (.int 1)) (dCons (dC (.int 0)) (dCons (dUn oNeg (dC (.int 1))) (dCons (dC (.int 0)) (dCons (dC (.int 6)) dNil))))))))) (tOr2 (dTstB (dBin oNe (dCall f_fraction (dCons (dC (.int 6)) (dCons (dUn oNeg (dC (.int 4))) dNil))) (dTup (dCons (dUn oNeg (dC (.int 3))) (dCons (dC (.int 2)) dNil))))) (dTstB (dBin oNe (dCallB (b1 fLen) (dCons (dCall f_rows_below (dCons (dTup (dCons (dC (.int 6)) (dCons (dC (.int 6)) (dCons (dC (.int 6)) dNil)))) dNil)) dNil)) (dC (.int 343)))))) (sRet (dC (.bl false))) sNext) (sRet (dBin oEq (dCall f_rows_below (dCons (dTup (dCons (dC (.int 2)) (dCons (dC (.int 1)) dNil))) dNil)) (dTup (dCons (dTup (dCons (dC (.int 0)) (dCons (dC (.int 0)) dNil))) (dCons (dTup (dCons (dC (.int 0)) (dCons (dC (.int 1)) dNil))) (dCons (dTup (dCons (dC (.int 1)) (dCons (dC (.int 0)) dNil))) (dCons (dTup (dCons (dC (.int 1)) (dCons (dC (.int 1)) dNil))) (dCons (dTup (dCons (dC (.int 2)) (dCons (dC (.int 0)) dNil))) (dCons (dTup (dCons (dC (.int 2)) (dCons (dC (.int 1)) dNil))) dNil)))))))))))
def n__law_lot : List Str := ["_law_script", "_law_spot", "_law_cell", "_law_left"]
theorem d__law_lot : n__law_lot.Nodup := by decide +kernel
def b__law_lot : DS := (sSeq (sAsg (dIf (dTstB (dBin oLtI (dVar 1) (dCallB (b1 fLen) (dCons (dVar 0) dNil)))) (dCallB (b1 fInt) (dCons (dBin oIx (dVar 0) (dVar 1)) dNil)) (dBin oAdd (dBin oMulA (dC (.int 61)) (dVar 1)) (dC (.int 37)))) (gNm 2)) (sSeq (sAsg (dBin oModI (dCallB (b2 fMax2) (dCons (dC (.int 0)) (dCons (dBin oSubI (dCallB (b1 fAbs) (dCons (dVar 2) dNil)) (dBin oPowI (dC (.int 10)) (dC (.int 17)))) dNil))) (dBin oMulA (dBin oPowI (dC (.int 10)) (dC (.int 58))) (dBin oPowI (dC (.int 10)) (dC (.int 59))))) (gNm 3)) (sRet (dLst (dCons (dVar 3) (dCons (dBin oAdd (dBin oAdd (dBin oAdd (dBin oMulA (dBin oModI (dCallB (b1 fAbs) (dCons (dVar 2) dNil)) (dC (.int 1152921504606846697))) (dC (.int 53))) (dBin oMulA (dC (.int 991)) (dVar 1))) (dBin oMulA (dC (.int 43)) (dCallB (b1 fInt) (dCons (dBin oLtI (dVar 2) (dC (.int 0))) dNil)))) (dC (.int 9))) (dCons (dC (.int 0)) dNil)))))))
def f__law_lot : Fn := mkFn n__law_lot.length b__law_lot
theorem c__law_lot : FnScope n__law_lot ["_law_script", "_law_spot"] (defScope (top 38)) := ⟨by kernel_rfl, by kernel_rfl, by kernel_rfl, d__law_lot, by kernel_rfl, by decide +kernel, by decide +kernel⟩
theorem s__law_lot {G : Glo} (h : Hy G) : PSsx ⟨G, 0, n__law_lot, defScope (top 38), fun _ => true, none, false⟩ (defBody (top 38)) b__law_lot := (pssx_cons (psx_asg (pex_if (ptx_cmp opx_ltI (pex_v 1 (by kernel_rfl)) (pex_bf cx_len (by kernel_rfl) (h.free 20 rfl) (pax_cons (pex_v 0 (by kernel_rfl)) pax_nil)) rfl) (pex_bt cx_int (by kernel_rfl) (h.free 2 rfl) (pax_cons (pex_ix (pex_v 0 (by kernel_rfl)) (pex_v 1 (by kernel_rfl))) pax_nil)) (pex_op opx_add (pex_op opx_mulA pex_int (pex_v 1 (by kernel_rfl))) pex_int)) (pgx_v d__law_lot 2 (by kernel_rfl))) (pssx_cons (psx_asg (pex_op opx_modI (pex_bf cx_max2 (by kernel_rfl) (h.free 41 rfl) (pax_cons pex_int (pax_cons (pex_op opx_subI (pex_bf cx_abs (by kernel_rfl) (h.free 42 rfl) (pax_cons (pex_v 2 (by kernel_rfl)) pax_nil)) (pex_op opx_powI pex_int pex_int)) pax_nil))) (pex_op opx_mulA (pex_op opx_powI pex_int pex_int) (pex_op opx_powI pex_int pex_int))) (pgx_v d__law_lot 3 (by kernel_rfl))) (pssx_one (psx_ret (pex_lst (pax_cons (pex_v 3 (by kernel_rfl)) (pax_cons (pex_op opx_add (pex_op opx_add (pex_op opx_add (pex_op opx_mulA (pex_op opx_modI (pex_bf cx_abs (by kernel_rfl) (h.free 42 rfl) (pax_cons (pex_v 2 (by kernel_rfl)) pax_nil)) pex_int) pex_int) (pex_op opx_mulA pex_int (pex_v 1 (by kernel_rfl)))) (pex_op opx_mulA pex_int (pex_bt cx_int (by kernel_rfl) (h.free 2 rfl) (pax_cons (pex_cmp opx_ltI (pex_v 2 (by kernel_rfl)) pex_int rfl) pax_nil)))) pex_int) (pax_cons pex_int pax_nil))))))))
theorem i__law_lot {G : Glo} (h : Hy G) : FnIs G 1 "_law_lot" 2 f__law_lot := h.fnIs 18 43 rfl rfl rfl c__law_lot rfl (fun _ _ _ _ _ _ us hl => match us, hl with | [_, _], _ => by kernel_rfl) (s__law_lot h)
def n__law_factors : List Str := ["_law_number", "_law_found", "_law_left", "_law_factor"]
theorem d__law_factors : n__law_factors.Nodup := by decide +kernel
def b__law_factors : DS := (sSeq (sAsg (dTup (dCons (dLst dNil) (dCons (dVar 0) (dCons (dC (.int 2)) dNil)))) (gTup 3 (gCons (gNm 1) (gCons (gNm 2) (gCons (gNm 3) gNil))))) (sSeq (sWhile (dTstB (dBin oLeI (dBin oMulA (dVar 3) (dVar 3)) (dVar 2))) (sIf (dTstB (dBin oEq (dBin oModI (dVar 2) (dVar 3)) (dC (.int 0)))) (sSeq (sExpr (dMeth isL mAppend (dVar 1) (dCons (dVar 3) dNil))) (sAsg (dBin oDivI (dVar 2) (dVar 3)) (gNm 2))) (sAsg (dBin oAdd (dVar 3) (dC (.int 1))) (gNm 3)))) (sRet (dBin oAdd (dVar 1) (dIf (dTstB (dBin oGtI (dVar 2) (dC (.int 1)))) (dLst (dCons (dVar 2) dNil)) (dLst dNil))))))
def f__law_factors : Fn := mkFn n__law_factors.length b__law_factors
theorem c__law_factors : FnScope n__law_factors ["_law_number"] (defScope (top 45)) := ⟨by kernel_rfl, by kernel_rfl, by kernel_rfl, d__law_factors, by kernel_rfl, by decide +kernel, by decide +kernel⟩
theorem s__law_factors {G : Glo} (h : Hy G) : PSsx ⟨G, 0, n__law_factors, defScope (top 45), fun _ => true, none, false⟩ (defBody (top 45)) b__law_factors := (pssx_cons (psx_par3 (i := 1) (j := 2) (l := 3) d__law_factors (by kernel_rfl) (by kernel_rfl) (by kernel_rfl) (by decide) (by decide) (by decide) (by kernel_rfl) (by kernel_rfl) (by kernel_rfl) (pax_cons (pex_lst pax_nil) (pax_cons (pex_v 0 (by kernel_rfl)) (pax_cons pex_int pax_nil))) (fun env he => by cases env; dsimp only at he; subst he; kernel_rfl)) (pssx_cons (psx_while (ptx_cmp opx_leI (pex_op opx_mulA (pex_v 3 (by kernel_rfl)) (pex_v 3 (by kernel_rfl))) (pex_v 2 (by kernel_rfl)) rfl) (pssx_one (psx_if (ptx_cmp opx_eq (pex_op opx_modI (pex_v 2 (by kernel_rfl)) (pex_v 3 (by kernel_rfl))) pex_int rfl) (pssx_cons (psx_expr (pex_bm PySem.F.plainAttrs_list PySem.F.slot_list_append PySem.F.type_list_append mtx_append hckL (pex_v 1 (by kernel_rfl)) (pax_cons (pex_v 3 (by kernel_rfl)) pax_nil))) (pssx_one (psx_asg (pex_op opx_divI (pex_v 2 (by kernel_rfl)) (pex_v 3 (by kernel_rfl))) (pgx_v d__law_factors 2 (by kernel_rfl))))) (pssx_one (psx_asg (pex_op opx_add (pex_v 3 (by kernel_rfl)) pex_int) (pgx_v d__law_factors 3 (by kernel_rfl))))))) (pssx_one (psx_ret (pex_op opx_add (pex_v 1 (by kernel_rfl)) (pex_if (ptx_cmp opx_gtI (pex_v 2 (by kernel_rfl)) pex_int rfl) (pex_lst (pax_cons (pex_v 2 (by kernel_rfl)) pax_nil)) (pex_lst pax_nil)))))))
theorem i__law_factors {G : Glo} (h : Hy G) : FnIs G 1 "_law_factors" 1 f__law_factors := h.fnIs 19 44 rfl rfl rfl c__law_factors rfl (fun _ _ _ _ _ _ us hl => match us, hl with | [_], _ => by kernel_rfl) (s__law_factors h)
def n_is_prime : List Str := ["value"]
theorem d_is_prime : n_is_prime.Nodup := by decide +kernel
def b_is_prime : DS := (sRet (dAndV (dCall f_is_whole (dCons (dVar 0) dNil)) (dAndV (dChain oLtI oLeI (dC (.int 1)) (dVar 0) (dC (.int (1000000000)))) (dBin oEq (dCall f_factors_in (dCons (dVar 0) dNil)) (dLst (dCons (dVar 0) dNil))))))
def f_is_prime : Fn := mkFn n_is_prime.length b_is_prime
theorem c_is_prime : FnScope n_is_prime ["value"] (defScope (top 28)) := ⟨by kernel_rfl, by kernel_rfl, by kernel_rfl, d_is_prime, by kernel_rfl, by decide +kernel, by decide +kernel⟩
theorem s_is_prime {G : Glo} (h : Hy G) : PSsx ⟨G, 1, n_is_prime, defScope (top 28), fun _ => true, none, false⟩ (defBody (top 28)) b_is_prime := (pssx_one (psx_ret (pex_and (pex_cl (i_is_whole h) (by kernel_rfl) (by kernel_rfl) (pax_cons (pex_v 0 (by kernel_rfl)) pax_nil) (ln1 ln0)) (pex_and (pex_chain opx_ltI opx_leI pex_int (pex_v 0 (by kernel_rfl)) (pex_gi (by kernel_rfl) (h.int 15 rfl)) rfl) (pex_one (pex_cmp opx_eq (pex_cl (i_factors_in h) (by kernel_rfl) (by kernel_rfl) (pax_cons (pex_v 0 (by kernel_rfl)) pax_nil) (ln1 ln0)) (pex_lst (pax_cons (pex_v 0 (by kernel_rfl)) pax_nil)) rfl))))))
theorem i_is_prime {G : Glo} (h : Hy G) : FnIs G 2 "is_prime" 1 f_is_prime := h.fnIs 20 46 rfl rfl rfl c_is_prime rfl (fun _ _ _ _ _ _ us hl => match us, hl with | [_], _ => by kernel_rfl) (s_is_prime h)
def n__law_is_parted : List Str := ["_law_number", "_law_factors_here", "_law_due", "_law_prime", "_law_sign", "_law_one"]
theorem d__law_is_parted : n__law_is_parted.Nodup := by decide +kernel
def b__law_is_parted : DS := (sSeq (sAsg (dTup (dCons (dCall f__law_factors (dCons (dVar 0) dNil)) (dCons (dLst (dCons (dC (.int 1)) dNil)) dNil))) (gTup 2 (gCons (gNm 1) (gCons (gNm 2) gNil)))) (sSeq (sFor (iSeq (dVar 1)) (gNm 3) (sAsg (dSortW (dBin oAdd (dVar 2) (dLc (iSeq (dVar 2)) (gNm 5) tYes1 (dBin oMulA (dVar 5) (dVar 3)) ([("_law_one", 5)].map (·.2))))) (gNm 2))) (sSeq (sAsg (dIf (dTstB (dBin oLtI (dLenW (dVar 1)) (dCallB (b1 fLen) (dCons (dVar 1) dNil)))) (dC (.int 0)) (dBin oSubI (dC (.int 1)) (dBin oMulA (dC (.int 2)) (dBin oModI (dCallB (b1 fLen) (dCons (dVar 1) dNil)) (dC (.int 2)))))) (gNm 4)) (sRet (dAndV (dBin oEq (dCallB (b1 fList) (dCons (dCall f_divisors (dCons (dVar 0) dNil)) dNil)) (dVar 2)) (dAndV (dBin oEq (dCall f_moebius (dCons (dVar 0) dNil)) (dVar 4)) (dBin oEq (dCall f_is_prime (dCons (dVar 0) dNil)) (dBin oEq (dCallB (b1 fLen) (dCons (dVar 1) dNil)) (dC (.int 1))))))))))
def f__law_is_parted : Fn := mkFn n__law_is_parted.length b__law_is_parted
theorem c__law_is_parted : FnScope n__law_is_parted ["_law_number"] (defScope (top 47)) := ⟨by kernel_rfl, by kernel_rfl, by kernel_rfl, d__law_is_parted, by kernel_rfl, by decide +kernel, by decide +kernel⟩
theorem s__law_is_parted {G : Glo} (h : Hy G) : PSsx ⟨G, 4, n__law_is_parted, defScope (top 47), fun _ => true, none, false⟩ (defBody (top 47)) b__law_is_parted := (pssx_cons (psx_par (i := 1) (j := 2) d__law_is_parted (by kernel_rfl) (by kernel_rfl) (by decide) (by kernel_rfl) (by kernel_rfl) (pax_cons (pex_cl (i__law_factors h) (by kernel_rfl) (by kernel_rfl) (pax_cons (pex_v 0 (by kernel_rfl)) pax_nil) (ln1 ln0)) (pax_cons (pex_lst (pax_cons pex_int pax_nil)) pax_nil)) (fun env he => by cases env; dsimp only at he; subst he; kernel_rfl)) (pssx_cons (psx_for (pix_seq (pex_v 1 (by kernel_rfl))) (pgx_v d__law_is_parted 3 (by kernel_rfl)) (pssx_one (psx_asg (pex_sortW (by kernel_rfl) (h.free 24 rfl) (by kernel_rfl) (h.free 21 rfl) (pex_op opx_add (pex_v 2 (by kernel_rfl)) (pex_lc d__law_is_parted (pix_seq (pex_v 2 (by kernel_rfl))) (own := [("_law_one", 5)]) (by kernel_rfl) (pgx_v d__law_is_parted 5 (by kernel_rfl)) ptsx_nil (pex_op opx_mulA (pex_v 5 (by kernel_rfl)) (pex_v 3 (by kernel_rfl))) (by decide)))) (pgx_v d__law_is_parted 2 (by kernel_rfl))))) (pssx_cons (psx_asg (pex_if (ptx_cmp opx_ltI (pex_lenW (by kernel_rfl) (h.free 20 rfl) (by kernel_rfl) (h.free 21 rfl) (pex_v 1 (by kernel_rfl))) (pex_bf cx_len (by kernel_rfl) (h.free 20 rfl) (pax_cons (pex_v 1 (by kernel_rfl)) pax_nil)) rfl) pex_int (pex_op opx_subI pex_int (pex_op opx_mulA pex_int (pex_op opx_modI (pex_bf cx_len (by kernel_rfl) (h.free 20 rfl) (pax_cons (pex_v 1 (by kernel_rfl)) pax_nil)) pex_int)))) (pgx_v d__law_is_parted 4 (by kernel_rfl))) (pssx_one (psx_ret (pex_and (pex_cmp opx_eq (pex_bt cx_list (by kernel_rfl) (h.free 45 rfl) (pax_cons (pex_cl (i_divisors h) (by kernel_rfl) (by kernel_rfl) (pax_cons (pex_v 0 (by kernel_rfl)) pax_nil) (ln1 ln0)) pax_nil)) (pex_v 2 (by kernel_rfl)) rfl) (pex_and (pex_cmp opx_eq (pex_cl (i_moebius h) (by kernel_rfl) (by kernel_rfl) (pax_cons (pex_v 0 (by kernel_rfl)) pax_nil) (ln1 ln0)) (pex_v 4 (by kernel_rfl)) rfl) (pex_one (pex_cmp opx_eq (pex_cl (i_is_prime h) (by kernel_rfl) (by kernel_rfl) (pax_cons (pex_v 0 (by kernel_rfl)) pax_nil) (ln1 ln0)) (pex_cmp opx_eq (pex_bf cx_len (by kernel_rfl) (h.free 20 rfl) (pax_cons (pex_v 1 (by kernel_rfl)) pax_nil)) pex_int rfl) rfl)))))))))
theorem i__law_is_parted {G : Glo} (h : Hy G) : FnIs G 5 "_law_is_parted" 1 f__law_is_parted := h.fnIs 21 47 rfl rfl rfl c__law_is_parted rfl (fun _ _ _ _ _ _ us hl => match us, hl with | [_], _ => by kernel_rfl) (s__law_is_parted h)
def n__law_pull : List Str := ["_law_lot_here", "_law_total", "_law_found", "_law_one", "_law_two"]
theorem d__law_pull : n__law_pull.Nodup := by decide +kernel
def b__law_pull : DS := (sSeq (sIf (dTstB (dBin oGtI (dBin oIx (dVar 0) (dC (.int 0))) (dC (.int 0)))) (sSeq (sAsg (dBin oModI (dCallB (b1 fInt) (dCons (dBin oIx (dVar 0) (dC (.int 0))) dNil)) (dVar 1)) (gNm 2)) (sSeq (sAsg (dBin oDivI (dBin oIx (dVar 0) (dC (.int 0))) (dVar 1)) (gSb (dVar 0) (dC (.int 0)))) (sRet (dVar 2)))) sNext) (sSeq (sAsg (dBin oAdd (dBin oIx (dVar 0) (dC (.int 2))) (dC (.int 1))) (gSb (dVar 0) (dC (.int 2)))) (sSeq (sAsg (dBin oModI (dCallB (b1 fInt) (dCons (dBin oAdd (dBin oIx (dVar 0) (dC (.int 1))) (dBin oMulA (dC (.int 99990001)) (dBin oIx (dVar 0) (dC (.int 2))))) dNil)) (dC (.int 2305843009213693409))) (gNm 3)) (sSeq (sAsg (dBin oAdd (dBin oMulA (dBin oModI (dCallB (b1 fInt) (dCons (dBin oAdd (dBin oMulA (dVar 3) (dVar 3)) (dBin oMulA (dC (.int 89)) (dBin oIx (dVar 0) (dC (.int 2))))) dNil)) (dC (.int 2305843009213693381))) (dC (.int 8675309))) (dVar 3)) (gNm 4)) (sRet (dBin oModI (dCallB (b1 fInt) (dCons (dBin oDivI (dVar 4) (dC (.int 65537))) dNil)) (dVar 1)))))))
def f__law_pull : Fn := mkFn n__law_pull.length b__law_pull
theorem c__law_pull : FnScope n__law_pull ["_law_lot_here", "_law_total"] (defScope (top 39)) := ⟨by kernel_rfl, by kernel_rfl, by kernel_rfl, d__law_pull, by kernel_rfl, by decide +kernel, by decide +kernel⟩
theorem s__law_pull {G : Glo} (h : Hy G) : PSsx ⟨G, 0, n__law_pull, defScope (top 39), fun _ => true, none, false⟩ (defBody (top 39)) b__law_pull := (pssx_cons (psx_if (ptx_cmp opx_gtI (pex_ix (pex_v 0 (by kernel_rfl)) pex_int) pex_int rfl) (pssx_cons (psx_asg (pex_op opx_modI (pex_bt cx_int (by kernel_rfl) (h.free 2 rfl) (pax_cons (pex_ix (pex_v 0 (by kernel_rfl)) pex_int) pax_nil)) (pex_v 1 (by kernel_rfl))) (pgx_v d__law_pull 2 (by kernel_rfl))) (pssx_cons (psx_asg (pex_op opx_divI (pex_ix (pex_v 0 (by kernel_rfl)) pex_int) (pex_v 1 (by kernel_rfl))) (pgx_sb (pex_v 0 (by kernel_rfl)) pex_int)) (pssx_one (psx_ret (pex_v 2 (by kernel_rfl)))))) pssx_nil) (pssx_cons (psx_asg (pex_op opx_add (pex_ix (pex_v 0 (by kernel_rfl)) pex_int) pex_int) (pgx_sb (pex_v 0 (by kernel_rfl)) pex_int)) (pssx_cons (psx_asg (pex_op opx_modI (pex_bt cx_int (by kernel_rfl) (h.free 2 rfl) (pax_cons (pex_op opx_add (pex_ix (pex_v 0 (by kernel_rfl)) pex_int) (pex_op opx_mulA pex_int (pex_ix (pex_v 0 (by kernel_rfl)) pex_int))) pax_nil)) pex_int) (pgx_v d__law_pull 3 (by kernel_rfl))) (pssx_cons (psx_asg (pex_op opx_add (pex_op opx_mulA (pex_op opx_modI (pex_bt cx_int (by kernel_rfl) (h.free 2 rfl) (pax_cons (pex_op opx_add (pex_op opx_mulA (pex_v 3 (by kernel_rfl)) (pex_v 3 (by kernel_rfl))) (pex_op opx_mulA pex_int (pex_ix (pex_v 0 (by kernel_rfl)) pex_int))) pax_nil)) pex_int) pex_int) (pex_v 3 (by kernel_rfl))) (pgx_v d__law_pull 4 (by kernel_rfl))) (pssx_one (psx_ret (pex_op opx_modI (pex_bt cx_int (by kernel_rfl) (h.free 2 rfl) (pax_cons (pex_op opx_divI (pex_v 4 (by kernel_rfl)) pex_int) pax_nil)) (pex_v 1 (by kernel_rfl)))))))))
theorem i__law_pull {G : Glo} (h : Hy G) : FnIs G 1 "_law_pull" 2 f__law_pull := h.fnIs 22 48 rfl rfl rfl c__law_pull rfl (fun _ _ _ _ _ _ us hl => match us, hl with | [_, _], _ => by kernel_rfl) (s__law_pull h)
def n__law_one_of : List Str := ["_law_lot_here", "_law_items"]
theorem d__law_one_of : n__law_one_of.Nodup := by decide +kernel
def b__law_one_of : DS := (sRet (dBin oIx (dVar 1) (dCall f__law_pull (dCons (dVar 0) (dCons (dCallB (b1 fLen) (dCons (dVar 1) dNil)) dNil)))))
def f__law_one_of : Fn := mkFn n__law_one_of.length b__law_one_of
theorem c__law_one_of : FnScope n__law_one_of ["_law_lot_here", "_law_items"] (defScope (top 40)) := ⟨by kernel_rfl, by kernel_rfl, by kernel_rfl, d__law_one_of, by kernel_rfl, by decide +kernel, by decide +kernel⟩
theorem s__law_one_of {G : Glo} (h : Hy G) : PSsx ⟨G, 1, n__law_one_of, defScope (top 40), fun _ => true, none, false⟩ (defBody (top 40)) b__law_one_of := (pssx_one (psx_ret (pex_ix (pex_v 1 (by kernel_rfl)) (pex_cl (i__law_pull h) (by kernel_rfl) (by kernel_rfl) (pax_cons (pex_v 0 (by kernel_rfl)) (pax_cons (pex_bf cx_len (by kernel_rfl) (h.free 20 rfl) (pax_cons (pex_v 1 (by kernel_rfl)) pax_nil)) pax_nil)) (ln1 (ln1 ln0))))))
theorem i__law_one_of {G : Glo} (h : Hy G) : FnIs G 2 "_law_one_of" 2 f__law_one_of := h.fnIs 23 49 rfl rfl rfl c__law_one_of rfl (fun _ _ _ _ _ _ us hl => match us, hl with | [_, _], _ => by kernel_rfl) (s__law_one_of h)
def n__law_integer : List Str := ["_law_lot_here", "_law_way"]
theorem d__law_integer : n__law_integer.Nodup := by decide +kernel
def b__law_integer : DS := (sSeq (sAsg (dCall f__law_pull (dCons (dVar 0) (dCons (dC (.int 4)) dNil))) (gNm 1)) (sSeq (sIf (dTstB (dBin oEq (dVar 1) (dC (.int 0)))) (sRet (dBin oAdd (dC (.int 1)) (dCall f__law_pull (dCons (dVar 0) (dCons (dC (.int 70)) dNil))))) sNext) (sSeq (sIf (dTstB (dBin oEq (dVar 1) (dC (.int 1)))) (sRet (dCall f__law_one_of (dCons (dVar 0) (dCons (dLst (dCons (dC (.int 2)) (dCons (dC (.int 89)) (dCons (dC (.int 420)) (dCons (dC (.int 2048)) (dCons (dC (.int 10009)) (dCons (dC (.int 30030)) (dCons (dC (.int 720720)) (dCons (dC (.int 999979)) (dCons (dBin oPowI (dC (.int 10)) (dC (.int 9))) (dCons (dC (.int 999999937)) dNil))))))))))) dNil)))) sNext) (sRet (dBin oMulA (dBin oAdd (dC (.int 1)) (dCall f__law_pull (dCons (dVar 0) (dCons (dC (.int 999)) dNil)))) (dBin oAdd (dC (.int 1)) (dCall f__law_pull (dCons (dVar 0) (dCons (dC (.int 999)) dNil)))))))))
def f__law_integer : Fn := mkFn n__law_integer.length b__law_integer
theorem c__law_integer : FnScope n__law_integer ["_law_lot_here"] (defScope (top 46)) := ⟨by kernel_rfl, by kernel_rfl, by kernel_rfl, d__law_integer, by kernel_rfl, by decide +kernel, by decide +kernel⟩
theorem s__law_integer {G : Glo} (h : Hy G) : PSsx ⟨G, 2, n__law_integer, defScope (top 46), fun _ => true, none, false⟩ (defBody (top 46)) b__law_integer := (pssx_cons (psx_asg (pex_cl (i__law_pull h) (by kernel_rfl) (by kernel_rfl) (pax_cons (pex_v 0 (by kernel_rfl)) (pax_cons pex_int pax_nil)) (ln1 (ln1 ln0))) (pgx_v d__law_integer 1 (by kernel_rfl))) (pssx_cons (psx_if (ptx_cmp opx_eq (pex_v 1 (by kernel_rfl)) pex_int rfl) (pssx_one (psx_ret (pex_op opx_add pex_int (pex_cl (i__law_pull h) (by kernel_rfl) (by kernel_rfl) (pax_cons (pex_v 0 (by kernel_rfl)) (pax_cons pex_int pax_nil)) (ln1 (ln1 ln0)))))) pssx_nil) (pssx_cons (psx_if (ptx_cmp opx_eq (pex_v 1 (by kernel_rfl)) pex_int rfl) (pssx_one (psx_ret (pex_cl (i__law_one_of h) (by kernel_rfl) (by kernel_rfl) (pax_cons (pex_v 0 (by kernel_rfl)) (pax_cons (pex_lst (pax_cons pex_int (pax_cons pex_int (pax_cons pex_int (pax_cons pex_int (pax_cons pex_int (pax_cons pex_int (pax_cons pex_int (pax_cons pex_int (pax_cons (pex_op opx_powI pex_int pex_int) (pax_cons pex_int pax_nil))))))))))) pax_nil)) (ln1 (ln1 ln0))))) pssx_nil) (pssx_one (psx_ret (pex_op opx_mulA (pex_op opx_add pex_int (pex_cl (i__law_pull h) (by kernel_rfl) (by kernel_rfl) (pax_cons (pex_v 0 (by kernel_rfl)) (pax_cons pex_int pax_nil)) (ln1 (ln1 ln0)))) (pex_op opx_add pex_int (pex_cl (i__law_pull h) (by kernel_rfl) (by kernel_rfl) (pax_cons (pex_v 0 (by kernel_rfl)) (pax_cons pex_int pax_nil)) (ln1 (ln1 ln0))))))))))
theorem i__law_integer {G : Glo} (h : Hy G) : FnIs G 3 "_law_integer" 1 f__law_integer := h.fnIs 24 50 rfl rfl rfl c__law_integer rfl (fun _ _ _ _ _ _ us hl => match us, hl with | [_], _ => by kernel_rfl) (s__law_integer h)
def n__law_below : List Str := ["_law_sizes", "_law_found", "_law_top", "_law_longer", "_law_row", "_law_entry"]
theorem d__law_below : n__law_below.Nodup := by decide +kernel
def b__law_below : DS := (sSeq (sAsg (dLst (dCons (dTup dNil) dNil)) (gNm 1)) (sSeq (sFor (iSeq (dVar 0)) (gNm 2) (sSeq (sAsg (dLst dNil) (gNm 3)) (sSeq (sFor (iSeq (dCallB (b1 fList) (dCons (dVar 1) dNil))) (gNm 4) (sExpr (dMeth isL mExtend (dVar 3) (dCons (dLc (iRng1 (dCons (dBin oAdd (dVar 2) (dC (.int 1))) dNil)) (gNm 5) tYes1 (dBin oAdd (dVar 4) (dTup (dCons (dVar 5) dNil))) ([("_law_entry", 5)].map (·.2))) dNil)))) (sAsg (dVar 3) (gNm 1))))) (sRet (dVar 1))))
def f__law_below : Fn := mkFn n__law_below.length b__law_below
theorem c__law_below : FnScope n__law_below ["_law_sizes"] (defScope (top 41)) := ⟨by kernel_rfl, by kernel_rfl, by kernel_rfl, d__law_below, by kernel_rfl, by decide +kernel, by decide +kernel⟩
theorem s__law_below {G : Glo} (h : Hy G) : PSsx ⟨G, 0, n__law_below, defScope (top 41), fun _ => true, none, false⟩ (defBody (top 41)) b__law_below := (pssx_cons (psx_asg (pex_lst (pax_cons (pex_tup pax_nil) pax_nil)) (pgx_v d__law_below 1 (by kernel_rfl))) (pssx_cons (psx_for (pix_seq (pex_v 0 (by kernel_rfl))) (pgx_v d__law_below 2 (by kernel_rfl)) (pssx_cons (psx_asg (pex_lst pax_nil) (pgx_v d__law_below 3 (by kernel_rfl))) (pssx_cons (psx_for (pix_seq (pex_bt cx_list (by kernel_rfl) (h.free 45 rfl) (pax_cons (pex_v 1 (by kernel_rfl)) pax_nil))) (pgx_v d__law_below 4 (by kernel_rfl)) (pssx_one (psx_expr (pex_bm PySem.F.plainAttrs_list PySem.F.slot_list_extend PySem.F.type_list_extend mtx_extend hckL (pex_v 3 (by kernel_rfl)) (pax_cons (pex_lc d__law_below (pix_range1 (by kernel_rfl) (h.free 37 rfl) (pax_cons (pex_op opx_add (pex_v 2 (by kernel_rfl)) pex_int) pax_nil)) (own := [("_law_entry", 5)]) (by kernel_rfl) (pgx_v d__law_below 5 (by kernel_rfl)) ptsx_nil (pex_op opx_add (pex_v 4 (by kernel_rfl)) (pex_tup (pax_cons (pex_v 5 (by kernel_rfl)) pax_nil))) (by decide)) pax_nil))))) (pssx_one (psx_asg (pex_v 3 (by kernel_rfl)) (pgx_v d__law_below 1 (by kernel_rfl))))))) (pssx_one (psx_ret (pex_v 1 (by kernel_rfl))))))
theorem i__law_below {G : Glo} (h : Hy G) : FnIs G 1 "_law_below" 1 f__law_below := h.fnIs 25 51 rfl rfl rfl c__law_below rfl (fun _ _ _ _ _ _ us hl => match us, hl with | [_], _ => by kernel_rfl) (s__law_below h)
def n__law_rows_right : List Str := ["_law_lot_here", "_law_sizes", "_law_turn"]
theorem d__law_rows_right : n__law_rows_right.Nodup := by decide +kernel
def b__law_rows_right : DS := (sSeq (sAsg (dCallB (b1 fTuple) (dCons (dLc (iRng1 (dCons (dBin oAdd (dC (.int 1)) (dCall f__law_pull (dCons (dVar 0) (dCons (dC (.int 4)) dNil)))) dNil)) (gNm 2) tYes1 (dCall f__law_pull (dCons (dVar 0) (dCons (dCall f__law_one_of (dCons (dVar 0) (dCons (dLst (dCons (dC (.int 2)) (dCons (dC (.int 3)) (dCons (dC (.int 5)) (dCons (dC (.int 7)) dNil))))) dNil))) dNil))) ([("_law_turn", 2)].map (·.2))) dNil)) (gNm 1)) (sRet (dBin oEq (dCall f_rows_below (dCons (dVar 1) dNil)) (dCallB (b1 fTuple) (dCons (dCall f__law_below (dCons (dVar 1) dNil)) dNil)))))
def f__law_rows_right : Fn := mkFn n__law_rows_right.length b__law_rows_right
theorem c__law_rows_right : FnScope n__law_rows_right ["_law_lot_here"] (defScope (top 48)) := ⟨by kernel_rfl, by kernel_rfl, by kernel_rfl, d__law_rows_right, by kernel_rfl, by decide +kernel, by decide +kernel⟩
theorem s__law_rows_right {G : Glo} (h : Hy G) : PSsx ⟨G, 3, n__law_rows_right, defScope (top 48), fun _ => true, none, false⟩ (defBody (top 48)) b__law_rows_right := (pssx_cons (psx_asg (pex_bt cx_tuple (by kernel_rfl) (h.free 0 rfl) (pax_cons (pex_lc d__law_rows_right (pix_range1 (by kernel_rfl) (h.free 37 rfl) (pax_cons (pex_op opx_add pex_int (pex_cl (i__law_pull h) (by kernel_rfl) (by kernel_rfl) (pax_cons (pex_v 0 (by kernel_rfl)) (pax_cons pex_int pax_nil)) (ln1 (ln1 ln0)))) pax_nil)) (own := [("_law_turn", 2)]) (by kernel_rfl) (pgx_v d__law_rows_right 2 (by kernel_rfl)) ptsx_nil (pex_cl (i__law_pull h) (by kernel_rfl) (by kernel_rfl) (pax_cons (pex_v 0 (by kernel_rfl)) (pax_cons (pex_cl (i__law_one_of h) (by kernel_rfl) (by kernel_rfl) (pax_cons (pex_v 0 (by kernel_rfl)) (pax_cons (pex_lst (pax_cons pex_int (pax_cons pex_int (pax_cons pex_int (pax_cons pex_int pax_nil))))) pax_nil)) (ln1 (ln1 ln0))) pax_nil)) (ln1 (ln1 ln0))) (by decide)) pax_nil)) (pgx_v d__law_rows_right 1 (by kernel_rfl))) (pssx_one (psx_ret (pex_cmp opx_eq (pex_cl (i_rows_below h) (by kernel_rfl) (by kernel_rfl) (pax_cons (pex_v 1 (by kernel_rfl)) pax_nil) (ln1 ln0)) (pex_bt cx_tuple (by kernel_rfl) (h.free 0 rfl) (pax_cons (pex_cl (i__law_below h) (by kernel_rfl) (by kernel_rfl) (pax_cons (pex_v 1 (by kernel_rfl)) pax_nil) (ln1 ln0)) pax_nil)) rfl))))
theorem i__law_rows_right {G : Glo} (h : Hy G) : FnIs G 4 "_law_rows_right" 1 f__law_rows_right := h.fnIs 26 52 rfl rfl rfl c__law_rows_right rfl (fun _ _ _ _ _ _ us hl => match us, hl with | [_], _ => by kernel_rfl) (s__law_rows_right h)
def n_require_count : List Str := ["value", "least", "most"]
theorem d_require_count : n_require_count.Nodup := by decide +kernel
def b_require_count : DS := (sIf (tOr2 (tNot1 (dTst (dCall f_is_integer (dCons (dVar 0) dNil)))) (tOr2 (dTstB (dBin oLtI (dVar 0) (dVar 1))) (dTstB (dBin oGtI (dVar 0) (dVar 2))))) (rX1 1 "value" (dVar 0)) sNext)
def f_require_count : Fn := mkFn n_require_count.length b_require_count
theorem c_require_count : FnScope n_require_count ["value", "least", "most"] (defScope (top 25)) := ⟨by kernel_rfl, by kernel_rfl, by kernel_rfl, d_require_count, by kernel_rfl, by decide +kernel, by decide +kernel⟩
theorem s_require_count {G : Glo} (h : Hy G) : PSsx ⟨G, 2, n_require_count, defScope (top 25), fun _ => true, none, false⟩ (defBody (top 25)) b_require_count := (pssx_one (psx_if (PWx.pt (pwx_or (ptx_not (ptx_truth (pex_cl (i_is_integer h) (by kernel_rfl) (by kernel_rfl) (pax_cons (pex_v 0 (by kernel_rfl)) pax_nil) (ln1 ln0)))) (pwx_or (ptx_cmp opx_ltI (pex_v 0 (by kernel_rfl)) (pex_v 1 (by kernel_rfl)) rfl) (pwx_or1 (ptx_cmp opx_gtI (pex_v 0 (by kernel_rfl)) (pex_v 2 (by kernel_rfl)) rfl))))) (pssx_one (psx_raise1 (x_InvalidCount h) (by kernel_rfl) (gc_of h 12 (c := 1) rfl rfl) (h.free 14 rfl) (htop h (by kernel_rfl)) (by kernel_rfl) (pex_v 0 (by kernel_rfl)))) pssx_nil))
theorem i_require_count {G : Glo} (h : Hy G) : FnIs G 3 "require_count" 3 f_require_count := h.fnIs 27 54 rfl rfl rfl c_require_count rfl (fun _ _ _ _ _ _ us hl => match us, hl with | [_, _, _], _ => by kernel_rfl) (s_require_count h)
def n_binomial_in : List Str := ["top", "low", "found", "step"]
theorem d_binomial_in : n_binomial_in.Nodup := by decide +kernel
def b_binomial_in : DS := (sSeq (sAsg (dC (.int 1)) (gNm 2)) (sSeq (sFor (iRng1 (dCons (dVar 1) dNil)) (gNm 3) (sAsg (dBin oDivI (dBin oMulA (dVar 2) (dBin oSubI (dVar 0) (dVar 3))) (dBin oAdd (dVar 3) (dC (.int 1)))) (gNm 2))) (sRet (dVar 2))))
def f_binomial_in : Fn := mkFn n_binomial_in.length b_binomial_in
theorem c_binomial_in : FnScope n_binomial_in ["top", "low"] (defScope (top 21)) := ⟨by kernel_rfl, by kernel_rfl, by kernel_rfl, d_binomial_in, by kernel_rfl, by decide +kernel, by decide +kernel⟩
theorem s_binomial_in {G : Glo} (h : Hy G) : PSsx ⟨G, 0, n_binomial_in, defScope (top 21), fun _ => true, none, false⟩ (defBody (top 21)) b_binomial_in := (pssx_cons (psx_asg pex_int (pgx_v d_binomial_in 2 (by kernel_rfl))) (pssx_cons (psx_for (pix_range1 (by kernel_rfl) (h.free 37 rfl) (pax_cons (pex_v 1 (by kernel_rfl)) pax_nil)) (pgx_v d_binomial_in 3 (by kernel_rfl)) (pssx_one (psx_asg (pex_op opx_divI (pex_op opx_mulA (pex_v 2 (by kernel_rfl)) (pex_op opx_subI (pex_v 0 (by kernel_rfl)) (pex_v 3 (by kernel_rfl)))) (pex_op opx_add (pex_v 3 (by kernel_rfl)) pex_int)) (pgx_v d_binomial_in 2 (by kernel_rfl))))) (pssx_one (psx_ret (pex_v 2 (by kernel_rfl))))))
theorem i_binomial_in {G : Glo} (h : Hy G) : FnIs G 1 "binomial_in" 2 f_binomial_in := h.fnIs 28 56 rfl rfl rfl c_binomial_in rfl (fun _ _ _ _ _ _ us hl => match us, hl with | [_, _], _ => by kernel_rfl) (s_binomial_in h)
def n_binomial : List Str := ["top", "low"]
theorem d_binomial : n_binomial.Nodup := by decide +kernel
def b_binomial : DS := (sSeq (sExpr (dCall f_require_count (dCons (dVar 0) (dCons (dC (.int 0)) (dCons (dC (.int (1000))) dNil))))) (sSeq (sExpr (dCall f_require_count (dCons (dVar 1) (dCons (dC (.int 0)) (dCons (dC (.int (1000))) dNil))))) (sRet (dIf (dTstB (dBin oLeI (dVar 1) (dVar 0))) (dCall f_binomial_in (dCons (dVar 0) (dCons (dVar 1) dNil))) (dC (.int 0))))))
def f_binomial : Fn := mkFn n_binomial.length b_binomial
theorem c_binomial : FnScope n_binomial ["top", "low"] (defScope (top 33)) := ⟨by kernel_rfl, by kernel_rfl, by kernel_rfl, d_binomial, by kernel_rfl, by decide +kernel, by decide +kernel⟩
theorem s_binomial {G : Glo} (h : Hy G) : PSsx ⟨G, 3, n_binomial, defScope (top 33), fun _ => true, none, false⟩ (defBody (top 33)) b_binomial := (pssx_cons (psx_expr (pex_cl (i_require_count h) (by kernel_rfl) (by kernel_rfl) (pax_cons (pex_v 0 (by kernel_rfl)) (pax_cons pex_int (pax_cons (pex_gi (by kernel_rfl) (h.int 55 rfl)) pax_nil))) (ln1 (ln1 (ln1 ln0))))) (pssx_cons (psx_expr (pex_cl (i_require_count h) (by kernel_rfl) (by kernel_rfl) (pax_cons (pex_v 1 (by kernel_rfl)) (pax_cons pex_int (pax_cons (pex_gi (by kernel_rfl) (h.int 55 rfl)) pax_nil))) (ln1 (ln1 (ln1 ln0))))) (pssx_one (psx_ret (pex_if (ptx_cmp opx_leI (pex_v 1 (by kernel_rfl)) (pex_v 0 (by kernel_rfl)) rfl) (pex_cl (i_binomial_in h) (by kernel_rfl) (by kernel_rfl) (pax_cons (pex_v 0 (by kernel_rfl)) (pax_cons (pex_v 1 (by kernel_rfl)) pax_nil)) (ln1 (ln1 ln0))) pex_int)))))
theorem i_binomial {G : Glo} (h : Hy G) : FnIs G 4 "binomial" 2 f_binomial := h.fnIs 29 57 rfl rfl rfl c_binomial rfl (fun _ _ _ _ _ _ us hl => match us, hl with | [_, _], _ => by kernel_rfl) (s_binomial h)
def n__law_gcd : List Str := ["_law_one", "_law_other"]
theorem d__law_gcd : n__law_gcd.Nodup := by decide +kernel
def b__law_gcd : DS := (sSeq (sAsg (dTup (dCons (dCallB (b1 fAbs) (dCons (dVar 0) dNil)) (dCons (dCallB (b1 fAbs) (dCons (dVar 1) dNil)) dNil))) (gTup 2 (gCons (gNm 0) (gCons (gNm 1) gNil)))) (sSeq (sWhile (dTstB (dBin oGtI (dVar 1) (dC (.int 0)))) (sAsg (dTup (dCons (dVar 1) (dCons (dBin oModI (dCallB (b1 fInt) (dCons (dVar 0) dNil)) (dVar 1)) dNil))) (gTup 2 (gCons (gNm 0) (gCons (gNm 1) gNil))))) (sRet (dVar 0))))
def f__law_gcd : Fn := mkFn n__law_gcd.length b__law_gcd
theorem c__law_gcd : FnScope n__law_gcd ["_law_one", "_law_other"] (defScope (top 42)) := ⟨by kernel_rfl, by kernel_rfl, by kernel_rfl, d__law_gcd, by kernel_rfl, by decide +kernel, by decide +kernel⟩
theorem s__law_gcd {G : Glo} (h : Hy G) : PSsx ⟨G, 0, n__law_gcd, defScope (top 42), fun _ => true, none, false⟩ (defBody (top 42)) b__law_gcd := (pssx_cons (psx_par (i := 0) (j := 1) d__law_gcd (by kernel_rfl) (by kernel_rfl) (by decide) (by kernel_rfl) (by kernel_rfl) (pax_cons (pex_bf cx_abs (by kernel_rfl) (h.free 42 rfl) (pax_cons (pex_v 0 (by kernel_rfl)) pax_nil)) (pax_cons (pex_bf cx_abs (by kernel_rfl) (h.free 42 rfl) (pax_cons (pex_v 1 (by kernel_rfl)) pax_nil)) pax_nil)) (fun env he => by cases env; dsimp only at he; subst he; kernel_rfl)) (pssx_cons (psx_while (ptx_cmp opx_gtI (pex_v 1 (by kernel_rfl)) pex_int rfl) (pssx_one (psx_par (i := 0) (j := 1) d__law_gcd (by kernel_rfl) (by kernel_rfl) (by decide) (by kernel_rfl) (by kernel_rfl) (pax_cons (pex_v 1 (by kernel_rfl)) (pax_cons (pex_op opx_modI (pex_bt cx_int (by kernel_rfl) (h.free 2 rfl) (pax_cons (pex_v 0 (by kernel_rfl)) pax_nil)) (pex_v 1 (by kernel_rfl))) pax_nil)) (fun env he => by cases env; dsimp only at he; subst he; kernel_rfl)))) (pssx_one (psx_ret (pex_v 0 (by kernel_rfl))))))
theorem i__law_gcd {G : Glo} (h : Hy G) : FnIs G 1 "_law_gcd" 2 f__law_gcd := h.fnIs 30 58 rfl rfl rfl c__law_gcd rfl (fun _ _ _ _ _ _ us hl => match us, hl with | [_, _], _ => by kernel_rfl) (s__law_gcd h)
def n__law_fraction : List Str := ["_law_top", "_law_bottom", "_law_shared"]
theorem d__law_fraction : n__law_fraction.Nodup := by decide +kernel
def b__law_fraction : DS := (sSeq (sAsg (dCall f__law_gcd (dCons (dVar 0) (dCons (dVar 1) dNil))) (gNm 2)) (sSeq (sIf (dTstB (dBin oLtI (dVar 1) (dC (.int 0)))) (sAsg (dUn oNeg (dVar 2)) (gNm 2)) sNext) (sRet (dTup (dCons (dBin (orO oDivI oDivN) (dVar 0) (dVar 2)) (dCons (dBin (orO oDivI oDivN) (dVar 1) (dVar 2)) dNil))))))
def f__law_fraction : Fn := mkFn n__law_fraction.length b__law_fraction
theorem c__law_fraction : FnScope n__law_fraction ["_law_top", "_law_bottom"] (defScope (top 44)) := ⟨by kernel_rfl, by kernel_rfl, by kernel_rfl, d__law_fraction, by kernel_rfl, by decide +kernel, by decide +kernel⟩
theorem s__law_fraction {G : Glo} (h : Hy G) : PSsx ⟨G, 1, n__law_fraction, defScope (top 44), fun _ => true, none, false⟩ (defBody (top 44)) b__law_fraction := (pssx_cons (psx_asg (pex_cl (i__law_gcd h) (by kernel_rfl) (by kernel_rfl) (pax_cons (pex_v 0 (by kernel_rfl)) (pax_cons (pex_v 1 (by kernel_rfl)) pax_nil)) (ln1 (ln1 ln0))) (pgx_v d__law_fraction 2 (by kernel_rfl))) (pssx_cons (psx_if (ptx_cmp opx_ltI (pex_v 1 (by kernel_rfl)) pex_int rfl) (pssx_one (psx_asg (pex_un unx_neg (pex_v 2 (by kernel_rfl))) (pgx_v d__law_fraction 2 (by kernel_rfl)))) pssx_nil) (pssx_one (psx_ret (pex_tup (pax_cons (pex_op opx_divX (pex_v 0 (by kernel_rfl)) (pex_v 2 (by kernel_rfl))) (pax_cons (pex_op opx_divX (pex_v 1 (by kernel_rfl)) (pex_v 2 (by kernel_rfl))) pax_nil)))))))
theorem i__law_fraction {G : Glo} (h : Hy G) : FnIs G 2 "_law_fraction" 2 f__law_fraction := h.fnIs 31 59 rfl rfl rfl c__law_fraction rfl (fun _ _ _ _ _ _ us hl => match us, hl with | [_, _], _ => by kernel_rfl) (s__law_fraction h)
def n__law_gcd_of : List Str := ["_law_numbers", "_law_found", "_law_number"]
theorem d__law_gcd_of : n__law_gcd_of.Nodup := by decide +kernel
def b__law_gcd_of : DS := (sSeq (sAsg (dC (.int 0)) (gNm 1)) (sSeq (sFor (iSeq (dVar 0)) (gNm 2) (sAsg (dCall f__law_gcd (dCons (dVar 1) (dCons (dVar 2) dNil))) (gNm 1))) (sRet (dVar 1))))
def f__law_gcd_of : Fn := mkFn n__law_gcd_of.length b__law_gcd_of
theorem c__law_gcd_of : FnScope n__law_gcd_of ["_law_numbers"] (defScope (top 43)) := ⟨by kernel_rfl, by kernel_rfl, by kernel_rfl, d__law_gcd_of, by kernel_rfl, by decide +kernel, by decide +kernel⟩
theorem s__law_gcd_of {G : Glo} (h : Hy G) : PSsx ⟨G, 1, n__law_gcd_of, defScope (top 43), fun _ => true, none, false⟩ (defBody (top 43)) b__law_gcd_of := (pssx_cons (psx_asg pex_int (pgx_v d__law_gcd_of 1 (by kernel_rfl))) (pssx_cons (psx_for (pix_seq (pex_v 0 (by kernel_rfl))) (pgx_v d__law_gcd_of 2 (by kernel_rfl)) (pssx_one (psx_asg (pex_cl (i__law_gcd h) (by kernel_rfl) (by kernel_rfl) (pax_cons (pex_v 1 (by kernel_rfl)) (pax_cons (pex_v 2 (by kernel_rfl)) pax_nil)) (ln1 (ln1 ln0))) (pgx_v d__law_gcd_of 1 (by kernel_rfl))))) (pssx_one (psx_ret (pex_v 1 (by kernel_rfl))))))
theorem i__law_gcd_of {G : Glo} (h : Hy G) : FnIs G 2 "_law_gcd_of" 1 f__law_gcd_of := h.fnIs 32 60 rfl rfl rfl c__law_gcd_of rfl (fun _ _ _ _ _ _ us hl => match us, hl with | [_], _ => by kernel_rfl) (s__law_gcd_of h)
def n__law_reckoned : List Str := ["_law_lot_here", "_law_top", "_law_row", "_law_turn", "_law_first", "_law_last", "_law_shared", "_law_some", "_law_one", "_law_other", "_law_low"]
theorem d__law_reckoned : n__law_reckoned.Nodup := by decide +kernel
def b__law_reckoned : DS := (sSeq (sAsg (dTup (dCons (dCall f__law_pull (dCons (dVar 0) (dCons (dC (.int 40)) dNil))) (dCons (dLst (dCons (dC (.int 1)) dNil)) dNil))) (gTup 2 (gCons (gNm 1) (gCons (gNm 2) gNil)))) (sSeq (sFor (iRng1 (dCons (dVar 1) dNil)) (gNm 3) (sAsg (dLc (iZip (dCons (dBin oAdd (dLst (dCons (dC (.int 0)) dNil)) (dVar 2)) (dCons (dBin oAdd (dVar 2) (dLst (dCons (dC (.int 0)) dNil))) dNil))) (gTup 2 (gCons (gNm 8) (gCons (gNm 9) gNil))) tYes1 (dBin oAdd (dVar 8) (dVar 9)) ([("_law_one", 8), ("_law_other", 9)].map (·.2))) (gNm 2))) (sSeq (sIf (dTstB (dBin oNe (dLc (iRng1 (dCons (dBin oAdd (dVar 1) (dC (.int 3))) dNil)) (gNm 10) tYes1 (dCall f_binomial (dCons (dVar 1) (dCons (dVar 10) dNil))) ([("_law_low", 10)].map (·.2))) (dBin oAdd (dVar 2) (dLst (dCons (dC (.int 0)) (dCons (dC (.int 0)) dNil)))))) (sRet (dC (.bl false))) sNext) (sSeq (sAsg (dTup (dCons (dBin oSubI (dCall f__law_pull (dCons (dVar 0) (dCons (dBin oMulA (dC (.int 2)) (dBin oPowI (dC (.int 10)) (dC (.int 20)))) dNil))) (dBin oPowI (dC (.int 10)) (dC (.int 20)))) (dCons (dBin oSubI (dCall f__law_pull (dCons (dVar 0) (dCons (dBin oPowI (dC (.int 10)) (dC (.int 9))) dNil))) (dBin oMulA (dC (.int 5)) (dBin oPowI (dC (.int 10)) (dC (.int 8))))) dNil))) (gTup 2 (gCons (gNm 4) (gCons (gNm 5) gNil)))) (sSeq (sAsg (dCall f__law_one_of (dCons (dVar 0) (dCons (dLst (dCons (dC (.int 1)) (dCons (dC (.int 2)) (dCons (dC (.int 6)) (dCons (dC (.int 360)) (dCons (dC (.int 997)) (dCons (dBin oPowI (dC (.int 10)) (dC (.int 9))) dNil))))))) dNil))) (gNm 6)) (sSeq (sAsg (dIf (dTstB (dBin oNe (dVar 5) (dC (.int 0)))) (dVar 5) (dUn oNeg (dC (.int 35)))) (gNm 5)) (sSeq (sIf (tOr2 (dTstB (dBin oNe (dCall f_fraction (dCons (dBin oMulA (dVar 4) (dVar 6)) (dCons (dBin oMulA (dVar 5) (dVar 6)) dNil))) (dCall f__law_fraction (dCons (dVar 4) (dCons (dVar 5) dNil))))) (dTstB (dBin oNe (dCall f_fraction (dCons (dC (.int 0)) (dCons (dVar 5) dNil))) (dTup (dCons (dC (.int 0)) (dCons (dC (.int 1)) dNil)))))) (sRet (dC (.bl false))) sNext) (sSeq (sAsg (dCallB (b1 fTuple) (dCons (dLc (iRng1 (dCons (dCall f__law_pull (dCons (dVar 0) (dCons (dC (.int 5)) dNil))) dNil)) (gNm 3) tYes1 (dBin oMulA (dVar 6) (dBin oSubI (dCall f__law_pull (dCons (dVar 0) (dCons (dC (.int 41)) dNil))) (dC (.int 20)))) ([("_law_turn", 3)].map (·.2))) dNil)) (gNm 7)) (sRet (dAndV (dBin oEq (dCall f_common_divisor (dCons (dVar 7) dNil)) (dCall f__law_gcd_of (dCons (dVar 7) dNil))) (dBin oEq (dCall f_binomial (dCons (dC (.int 1000)) (dCons (dVar 1) dNil))) (dCall f_binomial (dCons (dC (.int 1000)) (dCons (dBin oSubI (dC (.int 1000)) (dVar 1)) dNil))))))))))))))
def f__law_reckoned : Fn := mkFn n__law_reckoned.length b__law_reckoned
theorem c__law_reckoned : FnScope n__law_reckoned ["_law_lot_here"] (defScope (top 49)) := ⟨by kernel_rfl, by kernel_rfl, by kernel_rfl, d__law_reckoned, by kernel_rfl, by decide +kernel, by decide +kernel⟩
theorem s__law_reckoned {G : Glo} (h : Hy G) : PSsx ⟨G, 4, n__law_reckoned, defScope (top 49), fun _ => true, none, false⟩ (defBody (top 49)) b__law_reckoned := (pssx_cons (psx_asgS (pex_tup (pax_cons (pex_cl (i__law_pull h) (by kernel_rfl) (by kernel_rfl) (pax_cons (pex_v 0 (by kernel_rfl)) (pax_cons pex_int pax_nil)) (ln1 (ln1 ln0))) (pax_cons (pex_lst (pax_cons pex_int pax_nil)) pax_nil))) (pgx_tup (pgsx_cons (pgx_v d__law_reckoned 1 (by kernel_rfl)) (pgsx_cons (pgx_v d__law_reckoned 2 (by kernel_rfl)) pgsx_nil))) (fun _ _ => rfl) (fun env he => by cases env; dsimp only at he; subst he; kernel_rfl)) (pssx_cons (psx_for (pix_range1 (by kernel_rfl) (h.free 37 rfl) (pax_cons (pex_v 1 (by kernel_rfl)) pax_nil)) (pgx_v d__law_reckoned 3 (by kernel_rfl)) (pssx_one (psx_setLc 2 d__law_reckoned (by kernel_rfl) (by kernel_rfl) (pix_zip (by kernel_rfl) (h.free 53 rfl) (pax_cons (pex_op opx_add (pex_lst (pax_cons pex_int pax_nil)) (pex_v 2 (by kernel_rfl))) (pax_cons (pex_op opx_add (pex_v 2 (by kernel_rfl)) (pex_lst (pax_cons pex_int pax_nil))) pax_nil))) (own := [("_law_one", 8), ("_law_other", 9)]) (by kernel_rfl) (pgx_tup (pgsx_cons (pgx_v d__law_reckoned 8 (by kernel_rfl)) (pgsx_cons (pgx_v d__law_reckoned 9 (by kernel_rfl)) pgsx_nil))) ptsx_nil (pex_op opx_add (pex_v 8 (by kernel_rfl)) (pex_v 9 (by kernel_rfl))) (by decide) (by kernel_rfl) (by kernel_rfl) (by kernel_rfl)))) (pssx_cons (psx_if (ptx_cmp opx_ne (pex_lc d__law_reckoned (pix_range1 (by kernel_rfl) (h.free 37 rfl) (pax_cons (pex_op opx_add (pex_v 1 (by kernel_rfl)) pex_int) pax_nil)) (own := [("_law_low", 10)]) (by kernel_rfl) (pgx_v d__law_reckoned 10 (by kernel_rfl)) ptsx_nil (pex_cl (i_binomial h) (by kernel_rfl) (by kernel_rfl) (pax_cons (pex_v 1 (by kernel_rfl)) (pax_cons (pex_v 10 (by kernel_rfl)) pax_nil)) (ln1 (ln1 ln0))) (by decide)) (pex_op opx_add (pex_v 2 (by kernel_rfl)) (pex_lst (pax_cons pex_int (pax_cons pex_int pax_nil)))) rfl) (pssx_one (psx_ret pex_bl)) pssx_nil) (pssx_cons (psx_par (i := 4) (j := 5) d__law_reckoned (by kernel_rfl) (by kernel_rfl) (by decide) (by kernel_rfl) (by kernel_rfl) (pax_cons (pex_op opx_subI (pex_cl (i__law_pull h) (by kernel_rfl) (by kernel_rfl) (pax_cons (pex_v 0 (by kernel_rfl)) (pax_cons (pex_op opx_mulA pex_int (pex_op opx_powI pex_int pex_int)) pax_nil)) (ln1 (ln1 ln0))) (pex_op opx_powI pex_int pex_int)) (pax_cons (pex_op opx_subI (pex_cl (i__law_pull h) (by kernel_rfl) (by kernel_rfl) (pax_cons (pex_v 0 (by kernel_rfl)) (pax_cons (pex_op opx_powI pex_int pex_int) pax_nil)) (ln1 (ln1 ln0))) (pex_op opx_mulA pex_int (pex_op opx_powI pex_int pex_int))) pax_nil)) (fun env he => by cases env; dsimp only at he; subst he; kernel_rfl)) (pssx_cons (psx_asg (pex_cl (i__law_one_of h) (by kernel_rfl) (by kernel_rfl) (pax_cons (pex_v 0 (by kernel_rfl)) (pax_cons (pex_lst (pax_cons pex_int (pax_cons pex_int (pax_cons pex_int (pax_cons pex_int (pax_cons pex_int (pax_cons (pex_op opx_powI pex_int pex_int) pax_nil))))))) pax_nil)) (ln1 (ln1 ln0))) (pgx_v d__law_reckoned 6 (by kernel_rfl))) (pssx_cons (psx_asg (pex_if (ptx_cmp opx_ne (pex_v 5 (by kernel_rfl)) pex_int rfl) (pex_v 5 (by kernel_rfl)) (pex_un unx_neg pex_int)) (pgx_v d__law_reckoned 5 (by kernel_rfl))) (pssx_cons (psx_if (PWx.pt (pwx_or (ptx_cmp opx_ne (pex_cl (i_fraction h) (by kernel_rfl) (by kernel_rfl) (pax_cons (pex_op opx_mulA (pex_v 4 (by kernel_rfl)) (pex_v 6 (by kernel_rfl))) (pax_cons (pex_op opx_mulA (pex_v 5 (by kernel_rfl)) (pex_v 6 (by kernel_rfl))) pax_nil)) (ln1 (ln1 ln0))) (pex_cl (i__law_fraction h) (by kernel_rfl) (by kernel_rfl) (pax_cons (pex_v 4 (by kernel_rfl)) (pax_cons (pex_v 5 (by kernel_rfl)) pax_nil)) (ln1 (ln1 ln0))) rfl) (pwx_or1 (ptx_cmp opx_ne (pex_cl (i_fraction h) (by kernel_rfl) (by kernel_rfl) (pax_cons pex_int (pax_cons (pex_v 5 (by kernel_rfl)) pax_nil)) (ln1 (ln1 ln0))) (pex_tup (pax_cons pex_int (pax_cons pex_int pax_nil))) rfl)))) (pssx_one (psx_ret pex_bl)) pssx_nil) (pssx_cons (psx_asg (pex_bt cx_tuple (by kernel_rfl) (h.free 0 rfl) (pax_cons (pex_lc d__law_reckoned (pix_range1 (by kernel_rfl) (h.free 37 rfl) (pax_cons (pex_cl (i__law_pull h) (by kernel_rfl) (by kernel_rfl) (pax_cons (pex_v 0 (by kernel_rfl)) (pax_cons pex_int pax_nil)) (ln1 (ln1 ln0))) pax_nil)) (own := [("_law_turn", 3)]) (by kernel_rfl) (pgx_v d__law_reckoned 3 (by kernel_rfl)) ptsx_nil (pex_op opx_mulA (pex_v 6 (by kernel_rfl)) (pex_op opx_subI (pex_cl (i__law_pull h) (by kernel_rfl) (by kernel_rfl) (pax_cons (pex_v 0 (by kernel_rfl)) (pax_cons pex_int pax_nil)) (ln1 (ln1 ln0))) pex_int)) (by decide)) pax_nil)) (pgx_v d__law_reckoned 7 (by kernel_rfl))) (pssx_one (psx_ret (pex_and (pex_cmp opx_eq (pex_cl (i_common_divisor h) (by kernel_rfl) (by kernel_rfl) (pax_cons (pex_v 7 (by kernel_rfl)) pax_nil) (ln1 ln0)) (pex_cl (i__law_gcd_of h) (by kernel_rfl) (by kernel_rfl) (pax_cons (pex_v 7 (by kernel_rfl)) pax_nil) (ln1 ln0)) rfl) (pex_one (pex_cmp opx_eq (pex_cl (i_binomial h) (by kernel_rfl) (by kernel_rfl) (pax_cons pex_int (pax_cons (pex_v 1 (by kernel_rfl)) pax_nil)) (ln1 (ln1 ln0))) (pex_cl (i_binomial h) (by kernel_rfl) (by kernel_rfl) (pax_cons pex_int (pax_cons (pex_op opx_subI pex_int (pex_v 1 (by kernel_rfl))) pax_nil)) (ln1 (ln1 ln0))) rfl)))))))))))))
theorem i__law_reckoned {G : Glo} (h : Hy G) : FnIs G 5 "_law_reckoned" 1 f__law_reckoned := h.fnIs 33 61 rfl rfl rfl c__law_reckoned rfl (fun _ _ _ _ _ _ us hl => match us, hl with | [_], _ => by kernel_rfl) (s__law_reckoned h)
def n_is_name : List Str := ["value", "letter"]
theorem d_is_name : n_is_name.Nodup := by decide +kernel
def b_is_name : DS := (sSeq (sIf (tOr2 (tNot1 (dTst (dCallB bIsi (dCons (dVar 0) (dCons (dC (.ty "str")) dNil))))) (tNot1 (dTstB (dChain oLtI oLeI (dC (.int 0)) (dCallB (b1 fLen) (dCons (dVar 0) dNil)) (dC (.int (8))))))) (sRet (dC (.bl false))) sNext) (sRet (dCallB (b1 fAll) (dCons (dLc (iStrD (dVar 0)) (gNm 1) tYes1 (dBin oIn (dVar 1) (dC (.str "abcdefghijklmnopqrstuvwxyz"))) ([("letter", 1)].map (·.2))) dNil))))
def f_is_name : Fn := mkFn n_is_name.length b_is_name
theorem c_is_name : FnScope n_is_name ["value"] (defScope (top 27)) := ⟨by kernel_rfl, by kernel_rfl, by kernel_rfl, d_is_name, by kernel_rfl, by decide +kernel, by decide +kernel⟩
theorem s_is_name {G : Glo} (h : Hy G) : PSsx ⟨G, 0, n_is_name, defScope (top 27), fun _ => true, none, false⟩ (defBody (top 27)) b_is_name := (pssx_cons (psx_if (PWx.pt (pwx_or (ptx_not (ptx_truth (pex_bf cx_isi (by kernel_rfl) (h.free 1 rfl) (pax_cons (pex_v 0 (by kernel_rfl)) (pax_cons (pex_tyn (by kernel_rfl) (h.free 62 rfl)) pax_nil))))) (pwx_or1 (ptx_not (ptx_chain opx_ltI opx_leI pex_int (pex_bf cx_len (by kernel_rfl) (h.free 20 rfl) (pax_cons (pex_v 0 (by kernel_rfl)) pax_nil)) (pex_gi (by kernel_rfl) (h.int 63 rfl)) rfl))))) (pssx_one (psx_ret pex_bl)) pssx_nil) (pssx_one (psx_ret (pex_bf cx_all (by kernel_rfl) (h.free 7 rfl) (pax_cons (pex_lc d_is_name (pix_str (pex_v 0 (by kernel_rfl))) (own := [("letter", 1)]) (by kernel_rfl) (pgx_v d_is_name 1 (by kernel_rfl)) ptsx_nil (pex_cmp opx_in (pex_v 1 (by kernel_rfl)) (pex_gs (by kernel_rfl) (h.str 64 rfl)) rfl) (by decide)) pax_nil)))))
theorem i_is_name {G : Glo} (h : Hy G) : FnIs G 1 "is_name" 1 f_is_name := h.fnIs 34 65 rfl rfl rfl c_is_name rfl (fun _ _ _ _ _ _ us hl => match us, hl with | [_], _ => by kernel_rfl) (s_is_name h)
def n__law_judged : List Str := ["_law_lot_here", "_law_near", "_law_signs", "_law_word", "_law_plain", "_law_odd", "_law_turn", "_law_sign"]
theorem d__law_judged : n__law_judged.Nodup := by decide +kernel
def b__law_judged : DS := (sSeq (sAsg (dBin oAdd (dBin oSubI (dBin oPowI (dC (.int 10)) (dC (.int 60))) (dC (.int 2))) (dCall f__law_pull (dCons (dVar 0) (dCons (dC (.int 4)) dNil)))) (gNm 1)) (sSeq (sIf (tOr2 (dTstB (dBin oNe (dCall f_is_integer (dCons (dVar 1) dNil)) (dBin oLtI (dVar 1) (dBin oPowI (dC (.int 10)) (dC (.int 60)))))) (tOr2 (dTstB (dBin oNe (dCall f_is_integer (dCons (dUn oNeg (dVar 1)) dNil)) (dBin oLtI (dVar 1) (dBin oPowI (dC (.int 10)) (dC (.int 60)))))) (dTst (dCall f_is_integer (dCons (dC (.bl false)) dNil))))) (sRet (dC (.bl false))) sNext) (sSeq (sAsg (dIf (dTstB (dBin oEq (dCall f__law_pull (dCons (dVar 0) (dCons (dC (.int 2)) dNil))) (dC (.int 0)))) (dC (.str "amz")) (dC (.str "amzB2 -"))) (gNm 2)) (sSeq (sAsg (dMethS mJoin (dC (.str "")) (dLc (iRng1 (dCons (dCall f__law_pull (dCons (dVar 0) (dCons (dC (.int 11)) dNil))) dNil)) (gNm 6) tYes1 (dBin oIx (dVar 2) (dCall f__law_pull (dCons (dVar 0) (dCons (dCallB (b1 fLen) (dCons (dVar 2) dNil)) dNil)))) ([("_law_turn", 6)].map (·.2)))) (gNm 3)) (sSeq (sAsg (dBin oEq (dLc (iStrD (dVar 3)) (gNm 7) (dTstB (dBin oNotIn (dVar 7) (dC (.str "abcdefghijklmnopqrstuvwxyz")))) (dVar 7) ([("_law_sign", 7)].map (·.2))) (dLst dNil)) (gNm 4)) (sSeq (sIf (dTstB (dBin oNe (dCall f_is_name (dCons (dVar 3) dNil)) (dAndV (dVar 4) (dChain oLeI oLeI (dC (.int 1)) (dCallB (b1 fLen) (dCons (dVar 3) dNil)) (dC (.int 8)))))) (sRet (dC (.bl false))) sNext) (sSeq (sAsg (dCall f__law_one_of (dCons (dVar 0) (dCons (dLst (dCons (dC .non) (dCons (dC (.bl true)) (dCons (dC (.str "")) (dCons (dLst (dCons (dC (.int 5)) dNil)) (dCons (dTup (dCons (dC (.int 5)) dNil)) (dCons dDic0 (dCons (dC (.str "Ba")) (dCons (dUn oNeg (dC (.int 5))) (dCons (dC (.int 0)) (dCons (dC (.int 1)) (dCons (dBin oAdd (dBin oPowI (dC (.int 10)) (dC (.int 9))) (dC (.int 7))) (dCons (dBin oPowI (dC (.int 10)) (dC (.int 60))) dNil))))))))))))) dNil))) (gNm 5)) (sRet (dAndV (dNotV (dCall f_is_prime (dCons (dVar 5) dNil))) (dNotV (dCall f_is_name (dCons (dVar 5) dNil))))))))))))
def f__law_judged : Fn := mkFn n__law_judged.length b__law_judged
theorem c__law_judged : FnScope n__law_judged ["_law_lot_here"] (defScope (top 50)) := ⟨by kernel_rfl, by kernel_rfl, by kernel_rfl, d__law_judged, by kernel_rfl, by decide +kernel, by decide +kernel⟩
theorem s__law_judged {G : Glo} (h : Hy G) : PSsx ⟨G, 2, n__law_judged, defScope (top 50), fun _ => true, none, false⟩ (defBody (top 50)) b__law_judged := (pssx_cons (psx_asg (pex_op opx_add (pex_op opx_subI (pex_op opx_powI pex_int pex_int) pex_int) (pex_cl (i__law_pull h) (by kernel_rfl) (by kernel_rfl) (pax_cons (pex_v 0 (by kernel_rfl)) (pax_cons pex_int pax_nil)) (ln1 (ln1 ln0)))) (pgx_v d__law_judged 1 (by kernel_rfl))) (pssx_cons (psx_if (PWx.pt (pwx_or (ptx_cmp opx_ne (pex_cl (i_is_integer h) (by kernel_rfl) (by kernel_rfl) (pax_cons (pex_v 1 (by kernel_rfl)) pax_nil) (ln1 ln0)) (pex_cmp opx_ltI (pex_v 1 (by kernel_rfl)) (pex_op opx_powI pex_int pex_int) rfl) rfl) (pwx_or (ptx_cmp opx_ne (pex_cl (i_is_integer h) (by kernel_rfl) (by kernel_rfl) (pax_cons (pex_un unx_neg (pex_v 1 (by kernel_rfl))) pax_nil) (ln1 ln0)) (pex_cmp opx_ltI (pex_v 1 (by kernel_rfl)) (pex_op opx_powI pex_int pex_int) rfl) rfl) (pwx_or1 (ptx_truth (pex_cl (i_is_integer h) (by kernel_rfl) (by kernel_rfl) (pax_cons pex_bl pax_nil) (ln1 ln0))))))) (pssx_one (psx_ret pex_bl)) pssx_nil) (pssx_cons (psx_asg (pex_if (ptx_cmp opx_eq (pex_cl (i__law_pull h) (by kernel_rfl) (by kernel_rfl) (pax_cons (pex_v 0 (by kernel_rfl)) (pax_cons pex_int pax_nil)) (ln1 (ln1 ln0))) pex_int rfl) pex_str pex_str) (pgx_v d__law_judged 2 (by kernel_rfl))) (pssx_cons (psx_asg (pex_m1 PySem.F.slot_str_join PySem.F.type_str_join mtx_join pex_str (pex_lc d__law_judged (pix_range1 (by kernel_rfl) (h.free 37 rfl) (pax_cons (pex_cl (i__law_pull h) (by kernel_rfl) (by kernel_rfl) (pax_cons (pex_v 0 (by kernel_rfl)) (pax_cons pex_int pax_nil)) (ln1 (ln1 ln0))) pax_nil)) (own := [("_law_turn", 6)]) (by kernel_rfl) (pgx_v d__law_judged 6 (by kernel_rfl)) ptsx_nil (pex_ix (pex_v 2 (by kernel_rfl)) (pex_cl (i__law_pull h) (by kernel_rfl) (by kernel_rfl) (pax_cons (pex_v 0 (by kernel_rfl)) (pax_cons (pex_bf cx_len (by kernel_rfl) (h.free 20 rfl) (pax_cons (pex_v 2 (by kernel_rfl)) pax_nil)) pax_nil)) (ln1 (ln1 ln0)))) (by decide))) (pgx_v d__law_judged 3 (by kernel_rfl))) (pssx_cons (psx_asg (pex_cmp opx_eq (pex_lc d__law_judged (pix_str (pex_v 3 (by kernel_rfl))) (own := [("_law_sign", 7)]) (by kernel_rfl) (pgx_v d__law_judged 7 (by kernel_rfl)) (ptsx_one (ptx_cmp opx_notIn (pex_v 7 (by kernel_rfl)) pex_str rfl)) (pex_v 7 (by kernel_rfl)) (by decide)) (pex_lst pax_nil) rfl) (pgx_v d__law_judged 4 (by kernel_rfl))) (pssx_cons (psx_if (ptx_cmp opx_ne (pex_cl (i_is_name h) (by kernel_rfl) (by kernel_rfl) (pax_cons (pex_v 3 (by kernel_rfl)) pax_nil) (ln1 ln0)) (pex_and (pex_v 4 (by kernel_rfl)) (pex_one (pex_chain opx_leI opx_leI pex_int (pex_bf cx_len (by kernel_rfl) (h.free 20 rfl) (pax_cons (pex_v 3 (by kernel_rfl)) pax_nil)) pex_int rfl))) rfl) (pssx_one (psx_ret pex_bl)) pssx_nil) (pssx_cons (psx_asg (pex_cl (i__law_one_of h) (by kernel_rfl) (by kernel_rfl) (pax_cons (pex_v 0 (by kernel_rfl)) (pax_cons (pex_lst (pax_cons pex_non (pax_cons pex_bl (pax_cons pex_str (pax_cons (pex_lst (pax_cons pex_int pax_nil)) (pax_cons (pex_tup (pax_cons pex_int pax_nil)) (pax_cons pex_dic0 (pax_cons pex_str (pax_cons (pex_un unx_neg pex_int) (pax_cons pex_int (pax_cons pex_int (pax_cons (pex_op opx_add (pex_op opx_powI pex_int pex_int) pex_int) (pax_cons (pex_op opx_powI pex_int pex_int) pax_nil))))))))))))) pax_nil)) (ln1 (ln1 ln0))) (pgx_v d__law_judged 5 (by kernel_rfl))) (pssx_one (psx_ret (pex_and (pex_not (pex_cl (i_is_prime h) (by kernel_rfl) (by kernel_rfl) (pax_cons (pex_v 5 (by kernel_rfl)) pax_nil) (ln1 ln0))) (pex_one (pex_not (pex_cl (i_is_name h) (by kernel_rfl) (by kernel_rfl) (pax_cons (pex_v 5 (by kernel_rfl)) pax_nil) (ln1 ln0))))))))))))))
theorem i__law_judged {G : Glo} (h : Hy G) : FnIs G 3 "_law_judged" 1 f__law_judged := h.fnIs 35 66 rfl rfl rfl c__law_judged rfl (fun _ _ _ _ _ _ us hl => match us, hl with | [_], _ => by kernel_rfl) (s__law_judged h)
def n_law : List Str := ["_law_script", "_law_spot", "_law_lot_here", "_law_told"]
theorem d_law : n_law.Nodup := by decide +kernel
def b_law : DS := (sSeq (sFor (iRng1 (dCons (dCallB (b2 fMax2) (dCons (dC (.int 1)) (dCons (dCallB (b2 fMin2) (dCons (dC (.int 4)) (dCons (dCallB (b1 fLen) (dCons (dVar 0) dNil)) dNil))) dNil))) dNil)) (gNm 1) (sSeq (sAsg (dCall f__law_lot (dCons (dVar 0) (dCons (dVar 1) dNil))) (gNm 2)) (sSeq (sIf (tOr2 (tNot1 (dTst (dCall f__law_is_parted (dCons (dCall f__law_integer (dCons (dVar 2) dNil)) dNil)))) (tOr2 (tNot1 (dTst (dCall f__law_rows_right (dCons (dVar 2) dNil)))) (tNot1 (dTst (dCall f__law_reckoned (dCons (dVar 2) dNil)))))) (sRet (dC (.bl false))) sNext) (sIf (tNot1 (dTst (dCall f__law_judged (dCons (dVar 2) dNil)))) (sRet (dC (.bl false))) sNext)))) (sIso [] tail_law))
def f_law : Fn := mkFn n_law.length b_law
theorem c_law : FnScope n_law ["_law_script"] (defScope (top 51)) := ⟨by kernel_rfl, by kernel_rfl, by kernel_rfl, d_law, by kernel_rfl, by decide +kernel, by decide +kernel⟩
theorem s_law {G : Glo} (h : Hy G) : PSsx ⟨G, 5, n_law, defScope (top 51), fun _ => true, none, false⟩ (defBody (top 51)) b_law := (pssx_cons (psx_for (pix_range1 (by kernel_rfl) (h.free 37 rfl) (pax_cons (pex_bf cx_max2 (by kernel_rfl) (h.free 41 rfl) (pax_cons pex_int (pax_cons (pex_bf cx_min2 (by kernel_rfl) (h.free 40 rfl) (pax_cons pex_int (pax_cons (pex_bf cx_len (by kernel_rfl) (h.free 20 rfl) (pax_cons (pex_v 0 (by kernel_rfl)) pax_nil)) pax_nil))) pax_nil))) pax_nil)) (pgx_v d_law 1 (by kernel_rfl)) (pssx_cons (psx_asg (pex_cl (i__law_lot h) (by kernel_rfl) (by kernel_rfl) (pax_cons (pex_v 0 (by kernel_rfl)) (pax_cons (pex_v 1 (by kernel_rfl)) pax_nil)) (ln1 (ln1 ln0))) (pgx_v d_law 2 (by kernel_rfl))) (pssx_cons (psx_if (PWx.pt (pwx_or (ptx_not (ptx_truth (pex_cl (i__law_is_parted h) (by kernel_rfl) (by kernel_rfl) (pax_cons (pex_cl (i__law_integer h) (by kernel_rfl) (by kernel_rfl) (pax_cons (pex_v 2 (by kernel_rfl)) pax_nil) (ln1 ln0)) pax_nil) (ln1 ln0)))) (pwx_or (ptx_not (ptx_truth (pex_cl (i__law_rows_right h) (by kernel_rfl) (by kernel_rfl) (pax_cons (pex_v 2 (by kernel_rfl)) pax_nil) (ln1 ln0)))) (pwx_or1 (ptx_not (ptx_truth (pex_cl (i__law_reckoned h) (by kernel_rfl) (by kernel_rfl) (pax_cons (pex_v 2 (by kernel_rfl)) pax_nil) (ln1 ln0)))))))) (pssx_one (psx_ret pex_bl)) pssx_nil) (pssx_one (psx_if (ptx_not (ptx_truth (pex_cl (i__law_judged h) (by kernel_rfl) (by kernel_rfl) (pax_cons (pex_v 2 (by kernel_rfl)) pax_nil) (ln1 ln0)))) (pssx_one (psx_ret pex_bl)) pssx_nil))))) (pssx_iso [] (pssx_cons (psx_asg (pex_lst (pax_cons (pex_cl (i_divisors h) (by kernel_rfl) (by kernel_rfl) (pax_cons pex_int pax_nil) (ln1 ln0)) (pax_cons (pex_cl (i_moebius h) (by kernel_rfl) (by kernel_rfl) (pax_cons pex_int pax_nil) (ln1 ln0)) (pax_cons (pex_cl (i_moebius h) (by kernel_rfl) (by kernel_rfl) (pax_cons pex_int pax_nil) (ln1 ln0)) (pax_cons (pex_cl (i_moebius h) (by kernel_rfl) (by kernel_rfl) (pax_cons pex_int pax_nil) (ln1 ln0)) (pax_cons (pex_cl (i_common_divisor h) (by kernel_rfl) (by kernel_rfl) (pax_cons (pex_tup pax_nil) pax_nil) (ln1 ln0)) (pax_cons (pex_cl (i_common_divisor h) (by kernel_rfl) (by kernel_rfl) (pax_cons (pex_tup (pax_cons pex_int (pax_cons (pex_un unx_neg pex_int) (pax_cons pex_int pax_nil)))) pax_nil) (ln1 ln0)) pax_nil))))))) (pgx_v d_law 3 (by kernel_rfl))) (pssx_cons (psx_if (PWx.pt (pwx_or (ptx_cmp opx_ne (pex_v 3 (by kernel_rfl)) (pex_lst (pax_cons (pex_tup (pax_cons pex_int (pax_cons pex_int (pax_cons pex_int (pax_cons pex_int (pax_cons pex_int (pax_cons pex_int pax_nil))))))) (pax_cons pex_int (pax_cons pex_int (pax_cons (pex_un unx_neg pex_int) (pax_cons pex_int (pax_cons pex_int pax_nil))))))) rfl) (pwx_or (ptx_cmp opx_ne (pex_cl (i_fraction h) (by kernel_rfl) (by kernel_rfl) (pax_cons pex_int (pax_cons (pex_un unx_neg pex_int) pax_nil)) (ln1 (ln1 ln0))) (pex_tup (pax_cons (pex_un unx_neg pex_int) (pax_cons pex_int pax_nil))) rfl) (pwx_or1 (ptx_cmp opx_ne (pex_bf cx_len (by kernel_rfl) (h.free 20 rfl) (pax_cons (pex_cl (i_rows_below h) (by kernel_rfl) (by kernel_rfl) (pax_cons (pex_tup (pax_cons pex_int (pax_cons pex_int (pax_cons pex_int pax_nil)))) pax_nil) (ln1 ln0)) pax_nil)) pex_int rfl))))) (pssx_one (psx_ret pex_bl)) pssx_nil) (pssx_one (psx_ret (pex_cmp opx_eq (pex_cl (i_rows_below h) (by kernel_rfl) (by kernel_rfl) (pax_cons (pex_tup (pax_cons pex_int (pax_cons pex_int pax_nil))) pax_nil) (ln1 ln0)) (pex_tup (pax_cons (pex_tup (pax_cons pex_int (pax_cons pex_int pax_nil))) (pax_cons (pex_tup (pax_cons pex_int (pax_cons pex_int pax_nil))) (pax_cons (pex_tup (pax_cons pex_int (pax_cons pex_int pax_nil))) (pax_cons (pex_tup (pax_cons pex_int (pax_cons pex_int pax_nil))) (pax_cons (pex_tup (pax_cons pex_int (pax_cons pex_int pax_nil))) (pax_cons (pex_tup (pax_cons pex_int (pax_cons pex_int pax_nil))) pax_nil))))))) rfl)))))))
theorem i_law {G : Glo} (h : Hy G) : FnIs G 6 "law" 1 f_law := h.fnIs 36 67 rfl rfl rfl c_law rfl (fun _ _ _ _ _ _ us hl => match us, hl with | [_], _ => by kernel_rfl) (s_law h)
def names0 : List PySem.Str := ["ArrowError", "InvalidCount", "InvalidOperation", "InvalidSizes", "LETTERS", "MAX_BELOW", "MAX_CHOSEN", "MAX_FACTORED", "MAX_NAME", "MOST_DIGITS", "MOST_LENGTH", "MOST_SIZE", "TooMany", "_law_below", "_law_factors", "_law_fraction", "_law_gcd", "_law_gcd_of", "_law_integer", "_law_is_parted", "_law_judged", "_law_lot", "_law_one_of", "_law_pull", "_law_reckoned", "_law_rows_right", "binomial", "binomial_in", "common_divisor", "divisors"]
def names1 : List PySem.Str := ["divisors_in", "factors_in", "fraction", "fraction_in", "gcd", "is_integer", "is_name", "is_prime", "is_row", "is_whole", "many_below", "moebius", "moebius_in", "require_count", "require_factored", "require_integer", "rows_below", "rows_in"]
def names : List PySem.Str := names0 ++ names1
abbrev R : PySem.W.OpenRow := PySem.W.OpenLaw.row PySem.Challenge.rw_arrowsizes_k01_whole_numbers_and_rows
abbrev hk : PySem.W.Hook := hookZ 900 cs fn []
def ob (s : PySem.W.SharedT) : hk.α := obsZG 900 cs fn [] (HandSHeadRun.getT s)
theorem ob_eq (s : PySem.W.SharedT) : ob s = hk.obs s.abs := obsZG_eq (HandSHeadRun.getT_eq s)
def GL (P : Program) (w : World) (K : PySem.W.Frag) (mg : Str → Option Value) (base : Heap) : Glo := ⟨P, w, K, mg, base, fun c => match cl[c]? with
  | some x => ga K x
  | none => 0, []⟩
theorem hyp {w : World} {K : PySem.W.Frag} {mg : Str → Option Value} {h base : Heap} (KX : K.In h) (N : h.Ns mainGlobals mg) (c : SaysZ cs fn [] h K) : Hy (GL PySem.Challenge.pw_arrowsizes_k01_whole_numbers_and_rows w K mg base) where
  prog := rfl
  all := c.all
  mgns := fun x r e => by
    cases r with
    | none => exact PySem.W.mg_none_of KX N e
    | some v => exact PySem.W.mg_of KX N e
  cls := fun c x e => by
    show (match cl[c]? with
      | some x => ga K x
      | none => 0) = ga K x
    rw [e]
  tabs := rfl
  tabB := fun z hz => nomatch hz
theorem facts {w : World} {K : PySem.W.Frag} {h : Heap} {mg : Str → Option Value} {fa : Addr} (plain : ∀ ns : List Int, ns.length ≤ 63 → ∃ S, f_law [.fls (ns.map D.int)] [] = .ok (.bl true) S) (KX : K.In h) (N : h.Ns mainGlobals mg) (hmg : mg ("law" : Str) = some (.ref fa)) (c : SaysZ cs fn [] h K) :
    ∃ (K : PySem.W.Frag) (fd : FuncData) (sp : Sp), K.In h ∧ (∀ (s : Shared) (u : Value), BindsTo s fd ⟨[u], []⟩ [("_law_script", u)]) ∧
        (∀ (H : Hp) (a : Addr) (ns : List Int), ns.length ≤ 63 → (∀ z ∈ ns, Builtin.Int.intBits z ≤ 1048576) → Only H → SqL K H a (ns.map V.int) → sp [.ref a] H (fun v _ => v = .bl true) fun _ _ _ => False) ∧
        ∀ base : Heap, K.In base → base.Ns mainGlobals mg → FnOk PySem.Challenge.pw_arrowsizes_k01_whole_numbers_and_rows w K mg base (L2.CX PySem.Challenge.pw_arrowsizes_k01_whole_numbers_and_rows w) 6 fa fd ["_law_script"] sp := by
  obtain ⟨fd, F⟩ := (hyp (w := w) (base := h) KX N c).def_ 36 rfl
  have e := hmg.symm.trans ((hyp (w := w) (base := h) KX N c).glo 67 rfl)
  cases e
  refine ⟨K, fd, fun vs H Q E => ∀ base, spD (GL PySem.Challenge.pw_arrowsizes_k01_whole_numbers_and_rows w K mg base) 1 f_law vs H Q E, KX, fun s u => FunD.bindsA (ps := ["_law_script"]) F (fun _ _ _ _ _ _ us hl => match us, hl with | [_], _ => by kernel_rfl) s [u] rfl, fun H a ns hl hb hO hS base => law_ends rfl hO hS (plain ns hl), fun base hKb hN => ?_⟩
  exact FnOk.imp (fn_ok (G := GL PySem.Challenge.pw_arrowsizes_k01_whole_numbers_and_rows w K mg base) F c_law rfl (s_law (hyp KX N c))) fun vs H Q E z => z base
end
end Zk01

namespace Zk01
open PySem PySem.Spec Z
theorem w_pull {S : Store} {i m : Nat} {n : Int} {Q : D → Store → Prop} (hL : Lot S i m) (hn : 0 < n) (hn2 : n < 2 ^ 200) (hm : m ≤ 2 ^ 40) (hQ : ∀ (k : Int) S', 0 ≤ k → k < n → Lot S' i (m + 1) → Kp i S S' → S.length = S'.length → Q (.int k) S') :
    WP (f__law_pull [.ref i, .int n] S) Q := by
  obtain ⟨a, b, c, hS, ha, hc, hcm⟩ := hL
  have hdn : divOk a n = true := divOk_of hn (pow_lt_of (by omega) hn2) (by decide)
  have hL1 : Lot (S.set i (.lst [.int (a / n), .int b, .int c])) i (m + 1) := ⟨_, _, _, set_at hS, Int.ediv_nonneg ha (by omega), hc, by omega⟩
  have hL2 : Lot (S.set i (.lst [.int a, .int b, .int (c + 1)])) i (m + 1) := ⟨_, _, _, set_at hS, ha, by omega, by omega⟩
  unfold f__law_pull
  rw [mkFn_wp]
  unfold b__law_pull n__law_pull
  have hc1 : (c + 1).natAbs < 2 ^ 41 := pow_lt_of (by omega) (by omega)
  have h1 : mulOk 99990001 (c + 1) = true := mulOk_of (m := 30) (n := 41) (by decide) hc1 (by decide)
  have h2 : mulOk 89 (c + 1) = true := mulOk_of (m := 30) (n := 41) (by decide) hc1 (by decide)
  have e1 : ∀ x : Int, 0 ≤ x % 2305843009213693409 ∧ x % 2305843009213693409 < 2 ^ 62 := fun x => ⟨Int.emod_nonneg _ (by decide), Int.lt_trans (Int.emod_lt_of_pos _ (by decide)) (by decide)⟩
  have e2 : ∀ x : Int, 0 ≤ x % 2305843009213693381 ∧ x % 2305843009213693381 < 2 ^ 62 := fun x => ⟨Int.emod_nonneg _ (by decide), Int.lt_trans (Int.emod_lt_of_pos _ (by decide)) (by decide)⟩
  have h3 : ∀ x : Int, mulOk (x % 2305843009213693409) (x % 2305843009213693409) = true := fun x => mulOk_of (m := 62) (n := 62) (pow_lt_of (e1 x).1 (e1 x).2) (pow_lt_of (e1 x).1 (e1 x).2) (by decide)
  have h4 : ∀ x : Int, mulOk (x % 2305843009213693381) 8675309 = true := fun x => mulOk_of (m := 62) (n := 62) (pow_lt_of (e2 x).1 (e2 x).2) (by decide) (by decide)
  have h5 : ∀ x : Int, divOk x 65537 = true := fun x => divOk_of (n := 30) (by decide) (by decide) (by decide)
  simp only [List.map_cons, List.map_nil, List.length_cons, List.length_nil, List.cons_append, List.nil_append, List.replicate, q_seq, q_sif, WP_bind, q_tstB, q_bin, q_var, q_c, List.getElem?_cons_zero, List.getElem?_cons_succ, WP_ok, o_ixR, itemsR hS, Option.bind_some, ix0, Option.map_some, q_ofO, o_gt]
  by_cases h0 : 0 < a
  · simp only [h0, decide_true, WP_ok, if_true, WP_bind, q_seq, q_asg, q_bin, q_callB, q_cons, q_var, q_c, List.getElem?_cons_zero, List.getElem?_cons_succ, o_ixR, itemsR hS, Option.bind_some, ix0, Option.map_some, q_ofO, q_nil, q_b1, f_intI, o_mod hn, q_gnm, List.set_cons_succ, List.set_cons_zero, o_div hdn, q_gsb, setR hS, List.length_cons, List.length_nil, iN0, ofS_some, q_ret]
    exact hQ _ _ (Int.emod_nonneg _ (by omega)) (Int.emod_lt_of_pos _ hn) hL1 Kp.set (by simp)
  · simp only [h0, decide_false, WP_ok, if_false, Bool.false_eq_true, q_next, WP_bind, q_seq, q_asg, q_bin, q_callB, q_cons, q_var, q_c, List.getElem?_cons_zero, List.getElem?_cons_succ, o_ixR, itemsR hS, Option.bind_some, ix1, ix2, Option.map_some, q_ofO, q_nil, q_b1, f_intI, q_gnm, List.set_cons_succ, List.set_cons_zero, q_gsb, setR hS, List.length_cons, List.length_nil, iN2, ofS_some, q_ret, o_add, itemsR (set_at (u := .lst [.int a, .int b, .int (c + 1)]) hS), o_mul h1, o_mul h2, o_mod (show (0 : Int) < 2305843009213693409 by decide), o_mod (show (0 : Int) < 2305843009213693381 by decide), o_mul (h3 _), o_mul (h4 _), o_div (h5 _), o_mod hn]
    exact hQ _ _ (Int.emod_nonneg _ (by omega)) (Int.emod_lt_of_pos _ hn) hL2 Kp.set (by simp)

theorem w_one_of {S : Store} {i m r : Nat} {ds : List D} {Q : D → Store → Prop} (hL : Lot S i m) (hS : S[r]? = some (.lst ds)) (hne : 0 < ds.length) (hl : ds.length ≤ 2 ^ 60) (hr : r ≠ i) (hm : m ≤ 2 ^ 40)
    (hQ : ∀ (k : Nat) (x : D) S', ds[k]? = some x → Lot S' i (m + 1) → Kp i S S' → S.length = S'.length → Q x S') : WP (f__law_one_of [.ref i, .ref r] S) Q := by
  unfold f__law_one_of
  rw [mkFn_wp]
  unfold b__law_one_of n__law_one_of
  simp only [List.map_cons, List.map_nil, List.length_cons, List.length_nil, List.cons_append, List.nil_append, List.replicate, List.getElem?_cons_zero, List.getElem?_cons_succ, List.set_cons_succ, List.set_cons_zero, WP_bind, WP_ok, WP_cut, q_var, q_c, q_bin, q_un, q_ofO, q_chain, q_tst, q_tstB, q_and2, q_or2, q_not1, q_andV, q_orV, q_notV, q_if, q_nil, q_cons, q_tup, q_lst, q_next, q_seq, q_expr, q_ret, q_retN, q_brk, q_cnt, q_sif, q_gnm, q_gtup, q_gcons, q_gnil, q_asg, q_call, q_callB, q_seqi, q_for, q_while, o_add, o_addI, o_sub, o_lt, o_le, o_gt, o_ge, o_neg, o_ixR, o_ixT, o_ixF, itemsT, itemsF, seqT, seqF, q_b1, q_b2, f_intI, f_intB, f_abs, f_max, f_min, f_lenT, f_lenF, f_list, f_tuple, q_gsb, ofB_bl, q_sl, q_pno, q_pat, q_lrg, q_meth, q_fld, q_rng1, Option.bind_some, Option.map_some, ofS_some, if_true, if_false, Bool.false_eq_true, decide_true, decide_false, ix0, ix1, ix2, wipe_nil, wipe_cons, q_yes, q_rng2, f_lenR hS]
  refine w_pull hL (by omega) (by omega) hm fun k S' h0 h1 hL' kp hlen => ?_
  have hS' := kp.at_ hr hS
  obtain ⟨j, rfl⟩ := Int.eq_ofNat_of_zero_le h0
  have hj : j < ds.length := by omega
  simp only [List.map_cons, List.map_nil, List.length_cons, List.length_nil, List.cons_append, List.nil_append, List.replicate, List.getElem?_cons_zero, List.getElem?_cons_succ, List.set_cons_succ, List.set_cons_zero, WP_bind, WP_ok, WP_cut, q_var, q_c, q_bin, q_un, q_ofO, q_chain, q_tst, q_tstB, q_and2, q_or2, q_not1, q_andV, q_orV, q_notV, q_if, q_nil, q_cons, q_tup, q_lst, q_next, q_seq, q_expr, q_ret, q_retN, q_brk, q_cnt, q_sif, q_gnm, q_gtup, q_gcons, q_gnil, q_asg, q_call, q_callB, q_seqi, q_for, q_while, o_add, o_addI, o_sub, o_lt, o_le, o_gt, o_ge, o_neg, o_ixR, o_ixT, o_ixF, itemsT, itemsF, seqT, seqF, q_b1, q_b2, f_intI, f_intB, f_abs, f_max, f_min, f_lenT, f_lenF, f_list, f_tuple, q_gsb, ofB_bl, q_sl, q_pno, q_pat, q_lrg, q_meth, q_fld, q_rng1, Option.bind_some, Option.map_some, ofS_some, if_true, if_false, Bool.false_eq_true, decide_true, decide_false, ix0, ix1, ix2, wipe_nil, wipe_cons, q_yes, q_rng2, itemsR hS', ix_lit hj, List.getElem?_eq_getElem hj]
  exact hQ j _ S' (List.getElem?_eq_getElem hj) hL' kp hlen
theorem w_lot {S : Store} {x : D} {ns : List Int} {k : Nat} {Q : D → Store → Prop} (hs : Scr S x ns) (hk : k < 4) (hQ : ∀ r S', Lot S' r 0 → Sub S S' → S.length ≤ r → Q (.ref r) S') : WP (f__law_lot [x, .int (k : Int)] S) Q := by
  have hlenD : fLen x S = some (.int ((ns.map D.int).length : Int), S) := by
    rcases hs with rfl | ⟨r, rfl, e⟩
    · exact f_lenF
    · exact f_lenR e
  have hit : itemsD S x = some (ns.map D.int) := by
    rcases hs with rfl | ⟨r, rfl, e⟩
    · rfl
    · exact itemsR e
  have hix : ∀ i : Int, oIx x (.int i) S = (L2.atI (ns.map D.int) i).map fun y => (y, S) := fun i => by
    rcases hs with rfl | ⟨r, rfl, e⟩
    · exact o_ixF
    · rw [o_ixR, itemsR e]; rfl
  unfold f__law_lot
  rw [mkFn_wp]
  unfold b__law_lot n__law_lot
  have p17 : ∀ S : Store, oPowI (.int 10) (.int 17) S = some (.int (10 ^ 17), S) := fun S => o_pow (by decide +kernel)
  have p58 : ∀ S : Store, oPowI (.int 10) (.int 58) S = some (.int (10 ^ 58), S) := fun S => o_pow (by decide +kernel)
  have p59 : ∀ S : Store, oPowI (.int 10) (.int 59) S = some (.int (10 ^ 59), S) := fun S => o_pow (by decide +kernel)
  have mp : ∀ S : Store, oMulA (.int (10 ^ 58)) (.int (10 ^ 59)) S = some (.int (10 ^ 58 * 10 ^ 59), S) := fun S => o_mul (by decide +kernel)
  have rest : ∀ (c : Int), WP ((sSeq (sAsg (dBin oModI (dCallB (b2 fMax2) (dCons (dC (.int 0)) (dCons (dBin oSubI (dCallB (b1 fAbs) (dCons (dVar 2) dNil)) (dBin oPowI (dC (.int 10)) (dC (.int 17)))) dNil))) (dBin oMulA (dBin oPowI (dC (.int 10)) (dC (.int 58))) (dBin oPowI (dC (.int 10)) (dC (.int 59))))) (gNm 3)) (sRet (dLst (dCons (dVar 3) (dCons (dBin oAdd (dBin oAdd (dBin oAdd (dBin oMulA (dBin oModI (dCallB (b1 fAbs) (dCons (dVar 2) dNil)) (dC (.int 1152921504606846697))) (dC (.int 53))) (dBin oMulA (dC (.int 991)) (dVar 1))) (dBin oMulA (dC (.int 43)) (dCallB (b1 fInt) (dCons (dBin oLtI (dVar 2) (dC (.int 0))) dNil)))) (dC (.int 9))) (dCons (dC (.int 0)) dNil))))))
      [some x, some (.int (k : Int)), some (.int c), none] S) fun f S1 => WP (match f with
      | .rt d => .ok d S1
      | .nx _ => .ok .non S1
      | _ => .bad) Q := fun c => by
    have m1 : ∀ S : Store, oModI (.int (if c < 0 then -c else c)) (.int 1152921504606846697) S = some (.int ((if c < 0 then -c else c) % 1152921504606846697), S) := fun S => o_mod (by decide)
    have m2 : mulOk ((if c < 0 then -c else c) % 1152921504606846697) 53 = true := mulOk_of (m := 61) (n := 6) (by
      have h1 := Int.emod_nonneg (if c < 0 then -c else c) (show (1152921504606846697 : Int) ≠ 0 by decide)
      have h2 := Int.emod_lt_of_pos (if c < 0 then -c else c) (show (0 : Int) < 1152921504606846697 by decide)
      omega) (by decide) (by decide)
    have m3 : mulOk 991 (k : Int) = true := mulOk_of (m := 10) (n := 3) (by decide) (by omega) (by decide)
    have m4 : mulOk 43 (if decide (c < 0) = true then 1 else 0) = true := mulOk_of (m := 10) (n := 3) (by decide) (by split <;> decide) (by decide)
    have m5 : ∀ (S : Store) (v : Int), oModI (.int v) (.int (10 ^ 58 * 10 ^ 59)) S = some (.int (v % (10 ^ 58 * 10 ^ 59)), S) := fun S v => o_mod (by decide)
    simp only [List.map_cons, List.map_nil, List.length_cons, List.length_nil, List.cons_append, List.nil_append, List.replicate, List.getElem?_cons_zero, List.getElem?_cons_succ, List.set_cons_succ, List.set_cons_zero, WP_bind, WP_ok, WP_cut, q_var, q_c, q_bin, q_un, q_ofO, q_chain, q_tst, q_tstB, q_and2, q_or2, q_not1, q_andV, q_orV, q_notV, q_if, q_nil, q_cons, q_tup, q_lst, q_next, q_seq, q_expr, q_ret, q_retN, q_brk, q_cnt, q_sif, q_gnm, q_gtup, q_gcons, q_gnil, q_asg, q_call, q_callB, q_seqi, q_for, q_while, o_add, o_addI, o_sub, o_lt, o_le, o_gt, o_ge, o_neg, o_ixR, o_ixT, o_ixF, itemsT, itemsF, seqT, seqF, q_b1, q_b2, f_intI, f_intB, f_abs, f_max, f_min, f_lenT, f_lenF, f_list, f_tuple, q_gsb, ofB_bl, q_sl, q_pno, q_pat, q_lrg, q_meth, q_fld, q_rng1, Option.bind_some, Option.map_some, ofS_some, if_true, if_false, Bool.false_eq_true, decide_true, decide_false, ix0, ix1, ix2, wipe_nil, wipe_cons, q_yes, q_rng2, p17, p58, p59, mp, m5, m1, o_mul m2, o_mul m3, o_mul m4, mkL, show ((0 + 1 + 1 + 1 : Nat) ≤ sl) = True from eq_true (by decide), show ((1 + 1 + 1 : Nat) ≤ sl) = True from eq_true (by decide)]
    refine hQ _ _ ⟨_, _, _, push_at, Int.emod_nonneg _ (by decide), Int.le_refl _, by decide⟩ (Sub.push _ _) (Nat.le_refl _)
  have m0 : mulOk 61 (k : Int) = true := mulOk_of (m := 10) (n := 3) (by decide) (by omega) (by decide)
  rw [q_seq, WP_bind]
  by_cases hl : (k : Int) < ((ns.map D.int).length : Int)
  · have hk2 : k < ns.length := by rw [List.length_map] at hl; omega
    have ix : L2.atI (ns.map D.int) (k : Int) = some (.int ns[k]) := by
      rw [ix_lit (by rw [List.length_map]; exact hk2), List.getElem?_map, List.getElem?_eq_getElem hk2]; rfl
    have dl' : decide ((k : Int) < ((ns.map D.int).length : Int)) = true := decide_eq_true hl
    rw [q_asg, q_if]
    simp only [q_tstB, q_bin, q_var, q_c, q_callB, q_cons, q_nil, q_b1, hlenD, q_ofO, o_lt, dl', WP_bind, WP_ok, List.map_cons, List.map_nil, List.cons_append, List.nil_append, List.getElem?_cons_zero, List.getElem?_cons_succ, if_true, hix, ix, Option.map_some, f_intI, q_gnm, List.length_cons, List.length_nil, List.replicate, List.set_cons_succ, List.set_cons_zero]
    exact rest _
  · have dl' : decide ((k : Int) < ((ns.map D.int).length : Int)) = false := decide_eq_false hl
    rw [q_asg, q_if]
    simp only [q_tstB, q_bin, q_var, q_c, q_callB, q_cons, q_nil, q_b1, hlenD, q_ofO, o_lt, dl', WP_bind, WP_ok, List.map_cons, List.map_nil, List.cons_append, List.nil_append, List.getElem?_cons_zero, List.getElem?_cons_succ, Bool.false_eq_true, if_false, o_mul m0, o_add, f_intI, q_gnm, List.length_cons, List.length_nil, List.replicate, List.set_cons_succ, List.set_cons_zero]
    exact rest _
theorem draws : Draws f__law_one_of := draws_of fun hL hS hne hl hr hm hQ => w_one_of hL hS hne hl hr hm hQ
end Zk01

namespace Zk01
open PySem PySem.Spec Z
def nI (l : List Nat) : List D := l.map fun (k : Nat) => D.int (k : Int)
def stepR (acc : List (List Nat)) (k : Nat) : List (List Nat) := acc.flatMap fun r => (List.range (k + 1)).map fun m => r ++ [m]
def rowsR (sz : List Nat) : List (List Nat) := sz.foldl stepR [[]]
theorem rowsR_snoc {sz : List Nat} {k : Nat} : rowsR (sz ++ [k]) = stepR (rowsR sz) k := by unfold rowsR; rw [List.foldl_append]; rfl
theorem stepR_len {acc : List (List Nat)} {k : Nat} : (stepR acc k).length = acc.length * (k + 1) := by
  unfold stepR
  rw [List.length_flatMap]
  simp only [List.length_map, List.length_range, List.map_const', List.sum_replicate_nat]
theorem stepR_row {acc : List (List Nat)} {k n : Nat} (h : ∀ r ∈ acc, r.length ≤ n) : ∀ r ∈ stepR acc k, r.length ≤ n + 1 := fun r hr => by
  obtain ⟨a, ha, hr⟩ := List.mem_flatMap.mp hr
  obtain ⟨m, _, rfl⟩ := List.mem_map.mp hr
  rw [List.length_append]
  have := h a ha
  simp only [List.length_cons, List.length_nil]
  omega
theorem rowsR_row : ∀ (l : List Nat) (acc : List (List Nat)) (n : Nat), (∀ r ∈ acc, r.length ≤ n) → ∀ r ∈ l.foldl stepR acc, r.length ≤ n + l.length
  | [], acc, n, h => h
  | k :: l, acc, n, h => by
    intro r hr
    have := rowsR_row l (stepR acc k) (n + 1) (stepR_row h) r hr
    rw [List.length_cons]; omega
theorem rowsR_mono : ∀ (l : List Nat) (acc : List (List Nat)), acc.length ≤ (l.foldl stepR acc).length
  | [], acc => Nat.le_refl _
  | k :: l, acc => by
    have := rowsR_mono l (stepR acc k)
    rw [stepR_len] at this
    rw [List.foldl_cons]
    have h2 : acc.length ≤ acc.length * (k + 1) := Nat.le_mul_of_pos_right _ (by omega)
    omega
theorem rowsR_take {sz : List Nat} {k : Nat} : (rowsR (sz.take k)).length ≤ (rowsR sz).length := by
  have := rowsR_mono (sz.drop k) (rowsR (sz.take k))
  unfold rowsR at *
  rw [← List.foldl_append, List.take_append_drop] at this
  exact this
section
variable {S : Store} {sz : List Nat} {Q : D → Store → Prop}
theorem w_rows_in (hl : (rowsR sz).length ≤ 10000) (h6 : ∀ k ∈ sz, k ≤ 100) (hn : sz.length ≤ 100) (hQ : ∀ r S', Sub S S' → S'[r]? = some (.lst ((rowsR sz).map fun l => .tup (nI l))) → Q (.ref r) S') : WP (f_rows_in [.tup (nI sz)] S) Q := by
  unfold f_rows_in
  rw [mkFn_wp]
  unfold b_rows_in n_rows_in
  simp only [List.map_cons, List.map_nil, List.length_cons, List.length_nil, List.cons_append, List.nil_append, List.replicate]
  refine st_asg ?_
  refine st_ok d_one ?_
  simp only [List.set_cons_succ, List.set_cons_zero]
  have p1 := Sub.push S (O.lst [D.tup []])
  have g1 : (S ++ [O.lst [D.tup []]])[S.length]? = some (.lst [D.tup []]) := push_at
  generalize S.length = r1 at g1 ⊢
  generalize S ++ [O.lst [D.tup []]] = S1 at *
  rw [q_seq, WP_bind, q_for, WP_bind, q_seqi, WP_bind]
  refine st_var rfl ?_
  show WP (Res.ok (jT (nI sz)) S1) _
  refine WP_ok.mpr ?_
  refine wp_for sz.length (fun k env S' => ∃ r x2, env = [some (.tup (nI sz)), some (.ref r), x2, none, none] ∧ S'[r]? = some (.lst ((rowsR (sz.take k)).map fun l => .tup (nI l))) ∧ Sub S S') (by omega)
    ⟨r1, none, rfl, g1, p1⟩ (fun k env S2 hk ⟨r, x2, he, hr, s2⟩ => ⟨.int (sz[k] : Nat), ?_, ?_⟩) fun env S2 ⟨r, x2, he, hr, s2⟩ => ⟨?_, ?_⟩
  · unfold jT nI
    rw [List.getElem?_map, List.getElem?_eq_getElem hk]
    rfl
  · rw [q_gnm]
    refine WP_ok.mpr ?_
    subst he
    simp only [List.set_cons_succ, List.set_cons_zero]
    have hlk := rowsR_take (sz := sz) (k := k)
    have hk6 := h6 _ (List.getElem_mem hk)
    have e1 : rowsR (sz.take (k + 1)) = stepR (rowsR (sz.take k)) sz[k] := by rw [List.take_succ_eq_append_getElem hk, rowsR_snoc]
    have hl1 := rowsR_take (sz := sz) (k := k + 1)
    rw [e1, stepR_len] at hl1
    rw [q_asg, WP_bind]
    refine wp_lc2X (rowsR (sz.take k)) (List.range (sz[k] + 1)) (fun l => .tup (nI l)) (fun (m : Nat) => .int (m : Int)) (fun _ _ => true) (fun l m => .tup (nI (l ++ [m]))) (J := jL r) ?_ (fun q S' s' hq => jL_at (s' _ _ hr)) (fun a S' ha s' => ⟨jR 0 (sz[k] + 1), ?_, fun q S'' s'' hq => ?_⟩) (fun a b S' ha hb s' => ?_) (fun a b S' ha hb _ s' => ?_) (by rw [List.length_range]; omega) (by omega) (by rw [List.length_range]; omega) fun S3 s3 e3 => ?_
    · rw [q_seqi, q_var]
      show (match seqJ (.ref r) S2 with | some J => Res.ok J S2 | none => .bad) = _
      rw [seqR hr]
    · refine rngE ?_ (by omega)
      simp only [List.map_cons, List.map_nil, wipe_cons, wipe_nil, List.set_cons_succ, List.set_cons_zero, q_cons, q_nil, q_bin, q_var, q_c, List.getElem?_cons_zero, List.getElem?_cons_succ, Res.bind_ok, o_add, q_ofO]
      rfl
    · rw [List.length_range] at hq
      by_cases h : q < sz[k] + 1
      · rw [jR_at h, List.getElem?_map, List.getElem?_range h]; rfl
      · have : q = sz[k] + 1 := by omega
        subst this
        rw [jR_end, List.getElem?_eq_none (by simp)]
    · exact WP_ok.mpr ⟨rfl, Sub.refl _⟩
    · have ha2 : a.length ≤ 100 := by
        have := rowsR_row (sz.take k) [[]] 0 (fun r hr => by simp at hr; rw [hr]; exact Nat.le_refl _) a ha
        have h3 : (sz.take k).length ≤ sz.length := by rw [List.length_take]; omega
        omega
      have hsl : sl = 16777216 := rfl
      have ht : dTup (dStar (dVar 3) (dCons (dVar 4) dNil)) [some (.tup (nI sz)), some (.ref r), some (.int (sz[k] : Nat)), some (.tup (nI a)), some (.int (b : Nat))] S' = .ok (.tup (nI (a ++ [b]))) S' := by
        have e2 : dStar (dVar 3) (dCons (dVar 4) dNil) [some (.tup (nI sz)), some (.ref r), some (.int (sz[k] : Nat)), some (.tup (nI a)), some (.int (b : Nat))] S' = .ok (nI a ++ [.int (b : Nat)]) S' := rfl
        rw [q_tup, e2, Res.bind_ok, if_pos (by unfold nI; rw [List.length_append, List.length_map]; simp only [List.length_cons, List.length_nil]; omega)]
        unfold nI; rw [List.map_append]; rfl
      simp only [List.map_cons, List.map_nil, wipe_cons, wipe_nil, List.set_cons_succ, List.set_cons_zero]
      exact st_ok ht ⟨rfl, Sub.refl _⟩
    · rw [q_gnm]
      simp only [Res.bind_ok, List.set_cons_succ, List.set_cons_zero]
      refine WP_ok.mpr ⟨_, _, rfl, ?_, s2.trans s3⟩
      rw [e3, e1]
      unfold stepR
      rw [List.map_flatMap]
      have : ∀ l : List Nat, l.filter (fun _ => true) = l := fun l => by simp
      simp only [this, List.map_map, Function.comp_def]
  · unfold jT nI
    rw [List.getElem?_eq_none (by simp)]
  · subst he
    rw [List.take_length] at hr
    exact st_ret (st_var rfl (WP_ok.mpr (hQ r S2 s2 hr)))
end
end Zk01


namespace Zk01
open PySem PySem.Spec Z
theorem half_div {l f : Nat} (h2 : 2 ≤ f) : 2 * (l / f) ≤ l := by
  have h1 := Nat.div_mul_le_self l f
  have h3 : l / f * 2 ≤ l / f * f := Nat.mul_le_mul_left _ h2
  omega
theorem sq_le {l f : Nat} (h2 : 2 ≤ f) (h : f * f ≤ l) : f ≤ l := Nat.le_trans (Nat.le_mul_of_pos_left f (by omega)) h
def fg (l f : Nat) : List Nat := if h : 2 ≤ f ∧ f * f ≤ l then (if l % f = 0 then f :: fg (l / f) f else fg l (f + 1)) else if 1 < l then [l] else []
termination_by 2 * l + 1 - f
decreasing_by
  · have := half_div (l := l) h.1
    have := sq_le h.1 h.2
    omega
  · have := sq_le h.1 h.2
    omega
theorem fg_div {l f : Nat} (h2 : 2 ≤ f) (h : f * f ≤ l) (e : l % f = 0) : fg l f = f :: fg (l / f) f := by
  rw [fg, dif_pos ⟨h2, h⟩, if_pos e]
theorem fg_next {l f : Nat} (h2 : 2 ≤ f) (h : f * f ≤ l) (e : l % f ≠ 0) : fg l f = fg l (f + 1) := by
  rw [fg, dif_pos ⟨h2, h⟩, if_neg e]
theorem fg_end {l f : Nat} (h : ¬ f * f ≤ l) : fg l f = if 1 < l then [l] else [] := by
  rw [fg, dif_neg fun z => h z.2]
theorem fg_next' {l f : Nat} (h2 : 2 ≤ f) (e : l % f ≠ 0) : fg l f = fg l (f + 1) := by
  by_cases h : f * f ≤ l
  · exact fg_next h2 h e
  · have : f * f ≤ (f + 1) * (f + 1) := Nat.mul_le_mul (by omega) (by omega)
    rw [fg_end h, fg_end (by omega)]
def NoSm (l f : Nat) : Prop := ∀ d, 2 ≤ d → d < f → l % d ≠ 0
theorem NoSm.next {l f : Nat} (h : NoSm l f) (e : l % f ≠ 0) : NoSm l (f + 1) := fun d h2 hd => by
  by_cases q : d = f
  · subst q; exact e
  · exact h d h2 (by omega)
theorem NoSm.div {l f : Nat} (h : NoSm l f) (e : l % f = 0) : NoSm (l / f) f := fun d h2 hd z => by
  refine h d h2 hd (Nat.mod_eq_zero_of_dvd ?_)
  exact Nat.dvd_trans (Nat.dvd_of_mod_eq_zero z) (Nat.div_dvd_of_dvd (Nat.dvd_of_mod_eq_zero e))
theorem fg_div' {l f : Nat} (h2 : 2 ≤ f) (h1 : 1 ≤ l) (n : NoSm l f) (e : l % f = 0) : fg l f = f :: fg (l / f) f := by
  by_cases h : f * f ≤ l
  · exact fg_div h2 h e
  · have el : l / f * f = l := Nat.div_mul_cancel (Nat.dvd_of_mod_eq_zero e)
    have q1 : 1 ≤ l / f := Nat.pos_of_ne_zero fun z => by rw [z] at el; omega
    have q2 : l / f < f := by
      refine Nat.lt_of_not_le fun z => h ?_
      have := Nat.mul_le_mul_right f z
      omega
    have q3 : l / f = 1 := by
      by_cases q : 2 ≤ l / f
      · exact absurd (Nat.mod_eq_zero_of_dvd (Nat.div_dvd_of_dvd (Nat.dvd_of_mod_eq_zero e))) (n _ q q2)
      · omega
    rw [q3, Nat.one_mul] at el
    rw [q3, fg_end h, if_pos (by omega), fg_end (by have : 2 * 2 ≤ f * f := Nat.mul_le_mul h2 h2; omega), if_neg (by omega), el]
def prd : List Nat → Nat
  | [] => 1
  | x :: l => x * prd l
theorem fg_prd : ∀ (m l f : Nat), 2 * l + 1 - f < m → 1 ≤ l → prd (fg l f) = l
  | 0, l, f, h, _ => by omega
  | m + 1, l, f, h, h1 => by
    by_cases hf : 2 ≤ f ∧ f * f ≤ l
    · have hs := sq_le hf.1 hf.2
      by_cases e : l % f = 0
      · have hh := half_div (l := l) hf.1
        have el : f * (l / f) = l := Nat.mul_div_cancel' (Nat.dvd_of_mod_eq_zero e)
        rw [fg_div hf.1 hf.2 e]
        show f * prd _ = l
        rw [fg_prd m (l / f) f (by omega) (Nat.pos_of_ne_zero fun z => by rw [z] at el; omega), el]
      · rw [fg_next hf.1 hf.2 e]
        exact fg_prd m l (f + 1) (by omega) h1
    · rw [fg, dif_neg hf]
      by_cases q : 1 < l
      · rw [if_pos q]; show l * 1 = l; omega
      · rw [if_neg q]; show 1 = l; omega
theorem fg_pos : ∀ (m l f : Nat), 2 * l + 1 - f < m → 2 ≤ f → ∀ x ∈ fg l f, 2 ≤ x ∧ x ≤ max l f
  | 0, l, f, h, _ => by omega
  | m + 1, l, f, h, h2 => by
    intro x hx
    by_cases hf : f * f ≤ l
    · have hs := sq_le h2 hf
      by_cases e : l % f = 0
      · have hh := half_div (l := l) h2
        rw [fg_div h2 hf e] at hx
        rcases List.mem_cons.mp hx with rfl | hx
        · omega
        · have := fg_pos m (l / f) f (by omega) h2 x hx
          omega
      · rw [fg_next h2 hf e] at hx
        have := fg_pos m l (f + 1) (by omega) (by omega) x hx
        have : f + 1 ≤ l := by
          have : 2 * f ≤ f * f := Nat.mul_le_mul_right f h2
          omega
        omega
    · rw [fg_end hf] at hx
      by_cases q : 1 < l
      · rw [if_pos q] at hx; rw [List.mem_singleton.mp hx]; omega
      · rw [if_neg q] at hx; exact absurd hx List.not_mem_nil
def fac (n : Nat) : List Nat := fg n 2
theorem fac_prd {n : Nat} (h : 1 ≤ n) : prd (fac n) = n := fg_prd (2 * n + 2) n 2 (by omega) h
def fgf : Nat → Nat → Nat → Option (List Nat)
  | 0, _, _ => none
  | m + 1, l, f => if f * f ≤ l then (if l % f = 0 then (fgf m (l / f) f).map (f :: ·) else fgf m l (f + 1)) else some (if 1 < l then [l] else [])
theorem fgf_ok : ∀ {m l f : Nat} {r : List Nat}, 2 ≤ f → fgf m l f = some r → fg l f = r
  | 0, _, _, _, _, h => nomatch h
  | m + 1, l, f, r, h2, h => by
    unfold fgf at h
    by_cases hf : f * f ≤ l
    · rw [if_pos hf] at h
      by_cases e : l % f = 0
      · rw [if_pos e] at h
        cases q : fgf m (l / f) f with
        | none => rw [q] at h; cases h
        | some r' =>
          rw [q] at h
          cases h
          rw [fg_div h2 hf e, fgf_ok h2 q]
      · rw [if_neg e] at h
        rw [fg_next h2 hf e]
        exact fgf_ok (by omega) h
    · rw [if_neg hf] at h
      cases h
      exact fg_end hf
def noDiv (n : Nat) : Nat → Nat → Bool
  | 0, _ => true
  | k + 1, f => if n % f = 0 then false else noDiv n k (f + 1)
theorem fg_skip {n : Nat} : ∀ {k f : Nat}, 2 ≤ f → noDiv n k f = true → fg n f = fg n (f + k)
  | 0, _, _, _ => rfl
  | k + 1, f, h2, h => by
    unfold noDiv at h
    by_cases e : n % f = 0
    · rw [if_pos e] at h; cases h
    · rw [if_neg e] at h
      rw [fg_next' h2 e, fg_skip (k := k) (by omega) h]
      congr 1
      omega
theorem fac_big : fac 999999937 = [999999937] := by
  unfold fac
  rw [fg_skip (k := 31622) (by decide) (by decide +kernel)]
  exact fgf_ok (m := 1) (by decide) (by decide +kernel)
theorem fac_ten : fac 1000000000 = [2, 2, 2, 2, 2, 2, 2, 2, 2, 5, 5, 5, 5, 5, 5, 5, 5, 5] := fgf_ok (m := 40) (by decide) (by decide +kernel)
theorem small_le {l : List Nat} {s : Nat} (hn : l.Nodup) (h : ∀ x ∈ l, 1 ≤ x ∧ x ≤ s) : l.length ≤ s := by
  have := nodup_le (m := (List.range s).map (· + 1)) hn fun x hx => by
    obtain ⟨a, b⟩ := h x hx
    exact List.mem_map.mpr ⟨x - 1, List.mem_range.mpr (by omega), by omega⟩
  rwa [List.length_map, List.length_range] at this
theorem divs_le {l : List Nat} {n s : Nat} (hn : l.Nodup) (h0 : 0 < n) (hs : n ≤ s * s) (h : ∀ x ∈ l, x ∣ n) : l.length ≤ 2 * s := by
  have e := filter_split (fun x => decide (x ≤ s)) l
  have pos : ∀ x ∈ l, 1 ≤ x := fun x hx => Nat.pos_of_dvd_of_pos (h x hx) h0
  have a := small_le (s := s) (nodup_filt (q := fun x => decide (x ≤ s)) hn) fun x hx => by
    obtain ⟨m, q⟩ := List.mem_filter.mp hx
    exact ⟨pos x m, of_decide_eq_true q⟩
  have b : (l.filter fun x => !decide (x ≤ s)).length ≤ s := by
    have hb : ∀ x ∈ l.filter fun x => !decide (x ≤ s), x ∣ n ∧ s < x ∧ 1 ≤ n / x ∧ n / x ≤ s ∧ n / x * x = n := fun x hx => by
      obtain ⟨m, q⟩ := List.mem_filter.mp hx
      have hx1 : s < x := by
        have : ¬ x ≤ s := fun z => by rw [decide_eq_true z] at q; cases q
        omega
      have ex := Nat.div_mul_cancel (h x m)
      refine ⟨h x m, hx1, Nat.pos_of_ne_zero fun z => by rw [z] at ex; omega, ?_, ex⟩
      refine Nat.le_of_not_lt fun z => ?_
      have : (s + 1) * (s + 1) ≤ n / x * x := Nat.mul_le_mul (by omega) (by omega)
      have : s * s < (s + 1) * (s + 1) := Nat.mul_lt_mul_of_lt_of_le (by omega) (by omega) (by omega)
      omega
    have := small_le (s := s) (nodup_map (F := fun x => n / x) (nodup_filt (q := fun x => !decide (x ≤ s)) hn) fun x hx y hy e => ?_) fun z hz => ?_
    · rwa [List.length_map] at this
    · have ex := (hb x hx).2.2.2.2
      have ey := (hb y hy).2.2.2.2
      have e' : n / x = n / y := e
      rw [e'] at ex
      exact Nat.eq_of_mul_eq_mul_left (by have := (hb y hy).2.2.1; omega) (ex.trans ey.symm)
    · obtain ⟨x, hx, rfl⟩ := List.mem_map.mp hz
      exact ⟨(hb x hx).2.2.1, (hb x hx).2.2.2.1⟩
  omega
end Zk01

namespace Zk01
open PySem PySem.Spec Z
section
variable {S S' S0 : Store} {x y d : D} {ds es acc : List D} {l : List Int} {Q : D → Store → Prop} {QF : Fl → Store → Prop} {n k q r : Nat} {env : En}
def iN (l : List Nat) : List Int := l.map fun (k : Nat) => (k : Int)
theorem iN_len : (iN l').length = l'.length := by unfold iN; rw [List.length_map]
theorem iN_app {a b : List Nat} : iN (a ++ b) = iN a ++ iN b := List.map_append
theorem st_app' {o ro : Nat} {acc : List Int} {C : DE} {v : Int} (ho : env[o]? = some (some (.ref ro))) (hC : C env S = .ok (.int v) S) (e1 : S[ro]? = some (.lst (iL acc))) (hl : acc.length ≤ 10000) (h : QF (.nx env) (S.set ro (.lst (iL (acc ++ [v]))))) : WP (sExpr (dMeth isL mAppend (dVar o) (dCons C dNil)) env S) QF := by
  refine st_app (acc := iL acc) ho (st_ok hC ⟨iL acc, e1, by rw [iL_len]; exact hl, ?_⟩) e1
  have : iL acc ++ [D.int v] = iL (acc ++ [v]) := by unfold iL; rw [List.map_append]; rfl
  rw [this]
  exact h
theorem st_lst1 {r : DA} (h : WP (r env S) fun xs S1 => xs.length ≤ 1000 ∧ Q (.ref S1.length) (S1 ++ [.lst xs])) : WP (dLst r env S) Q := by
  rw [q_lst, WP_bind]
  refine WP_mono h fun xs S1 ⟨hl, q⟩ => ?_
  unfold mkL
  rw [if_pos (by have : sl = 16777216 := rfl; omega)]
  exact WP_ok.mpr q
theorem m_nat {a b : Nat} (h : 2 ≤ b) : oModI (.int (a : Int)) (.int (b : Int)) S = some (.int ((a % b : Nat) : Int), S) := by rw [o_mod (by omega)]; rfl
theorem d_nat {a b : Nat} (h : 2 ≤ b) (hb : b ≤ 2 ^ 40) : oDivI (.int (a : Int)) (.int (b : Int)) S = some (.int ((a / b : Nat) : Int), S) := by
  rw [o_div (divOk_of (by omega) (n := 41) (by omega) (by decide))]; rfl
theorem mul_nat {a b : Nat} (ha : a ≤ 2 ^ 40) (hb : b ≤ 2 ^ 40) : oMulA (.int (a : Int)) (.int (b : Int)) S = some (.int ((a * b : Nat) : Int), S) := by
  rw [o_mul (mulW (a := 41) (b := 41) (by omega) (by omega) (by decide))]
  rw [Int.natCast_mul]
theorem z_nat {a : Nat} : oEq (.int (a : Int)) (.int 0) S = some (.bl (decide (a = 0)), S) := by
  rw [o_eqI]
  congr 3
  exact decide_eq_decide.mpr (by omega)
theorem sq_bd {f l : Nat} (h : f * f ≤ l) (hl : l ≤ 2 ^ 40) : f ≤ 2 ^ 40 := by
  by_cases h0 : f = 0
  · omega
  · have := Nat.le_mul_of_pos_left f (Nat.pos_of_ne_zero h0)
    omega
theorem w_lfactors (h1 : 1 ≤ n) (hn : n ≤ 2000000000) (hQ : ∀ r S', Sub S S' → S.length ≤ r → S'[r]? = some (.lst (iL (iN (fac n)))) → Q (.ref r) S') : WP (f__law_factors [.int (n : Int)] S) Q := by
  unfold f__law_factors
  rw [mkFn_wp]
  unfold b__law_factors n__law_factors
  simp only [List.map_cons, List.map_nil, List.length_cons, List.length_nil, List.cons_append, List.nil_append, List.replicate]
  refine st_asg3 (st_ok d_nil (st_var rfl (st_c ?_)))
  have p1 := Sub.push S (O.lst [])
  have g1 : (S ++ [O.lst []])[S.length]? = some (.lst (iL [])) := push_at
  generalize hr1 : S.length = r1 at g1 ⊢
  have hr1' : S.length ≤ r1 := by omega
  generalize S ++ [O.lst []] = S1 at *
  simp only [List.set_cons_succ, List.set_cons_zero]
  rw [q_seq, WP_bind, q_while]
  refine wp_while (fun m env S' => ∃ (acc : List Nat) (l f : Nat), env = [some (.int (n : Int)), some (.ref r1), some (.int (l : Int)), some (.int (f : Int))] ∧ S'[r1]? = some (.lst (iL (iN acc))) ∧ Kp r1 S1 S' ∧ 2 ≤ f ∧ 1 ≤ l ∧ l ≤ n ∧ acc ++ fg l f = fac n ∧ 2 ^ acc.length ≤ 2 ^ 40 ∧ 2 ^ acc.length * l ≤ n ∧ f ≤ n + 2 ∧ m = 2 * l + 1 - f) (2 * n + 1 - 2) (by omega)
    ⟨[], n, 2, rfl, g1, Kp.refl _ _, by omega, h1, Nat.le_refl _, rfl, by decide, by simp, by omega, rfl⟩ (fun m env S2 ⟨acc, l, f, he, e2, k2, f2, l1, ln, ea, b2, bl, fn, em⟩ => ?_)
  subst he
  have la : acc.length ≤ 40 := (Nat.pow_le_pow_iff_right (by decide)).mp b2
  by_cases hc : f * f ≤ l
  · have fb := sq_bd hc (by omega)
    have hs := sq_le f2 hc
    refine st_cmp ?_
    refine st_bin (st_var rfl (st_var rfl ⟨_, _, mul_nat fb fb, st_var rfl ⟨true, S2, by rw [o_le, decide_eq_true (by omega)], ?_⟩⟩))
    rw [if_pos rfl, q_sif, WP_bind]
    refine st_cmp (st_bin (st_var rfl (st_var rfl ⟨_, _, m_nat f2, st_c ⟨_, _, z_nat, ?_⟩⟩)))
    by_cases e : l % f = 0
    · rw [decide_eq_true e, if_pos rfl, q_seq, WP_bind]
      have hh := half_div (l := l) f2
      have el : f * (l / f) = l := Nat.mul_div_cancel' (Nat.dvd_of_mod_eq_zero e)
      refine st_app' (ro := r1) (acc := iN acc) (v := (f : Int)) rfl rfl e2 (by rw [iN_len]; omega) ?_
      dsimp only
      rw [q_asg, WP_bind]
      refine st_bin (st_var rfl (st_var rfl ⟨_, _, d_nat f2 fb, ?_⟩))
      simp only [q_gnm, Res.bind_ok, WP_ok, List.set_cons_succ, List.set_cons_zero]
      have l1' : 1 ≤ l / f := Nat.pos_of_ne_zero fun z => by rw [z] at el; omega
      have hpow : 2 ^ (acc ++ [f]).length * (l / f) ≤ n := by
        rw [List.length_append, List.length_cons, List.length_nil, Nat.pow_succ]
        have : 2 ^ acc.length * 2 * (l / f) = 2 ^ acc.length * (2 * (l / f)) := Nat.mul_assoc _ _ _
        rw [this]
        exact Nat.le_trans (Nat.mul_le_mul_left _ hh) bl
      refine ⟨2 * (l / f) + 1 - f, by omega, acc ++ [f], l / f, f, rfl, ?_, k2.trans Kp.set, f2, l1', by omega, ?_, ?_, hpow, fn, rfl⟩
      · rw [iN_app]; exact set_at e2
      · rw [← ea, fg_div f2 hc e, List.append_assoc]; rfl
      · have := Nat.mul_le_mul_left (2 ^ (acc ++ [f]).length) l1'
        omega
    · rw [decide_eq_false e, if_neg (by decide), q_asg, WP_bind]
      refine st_bin (st_var rfl (st_c ⟨_, _, o_add, ?_⟩))
      simp only [q_gnm, Res.bind_ok, WP_ok, List.set_cons_succ, List.set_cons_zero]
      exact ⟨2 * l + 1 - (f + 1), by omega, acc, l, f + 1, by rw [Int.natCast_add]; rfl, e2, k2, by omega, l1, ln, by rw [← ea, fg_next f2 hc e], b2, bl, by omega, rfl⟩
  · refine st_cmp ?_
    refine st_bin (st_var rfl (st_var rfl ⟨_, _, mul_nat (by omega) (by omega), st_var rfl ⟨false, S2, by rw [o_le, decide_eq_false (by omega)], ?_⟩⟩))
    rw [if_neg (by decide)]
    dsimp only
    refine st_ret ?_
    refine st_bin (st_var rfl ?_)
    rw [q_if, WP_bind]
    refine st_cmp (st_var rfl (st_c ⟨_, _, o_gt, ?_⟩))
    rw [fg_end hc] at ea
    have sB : Sub S S2 := sub_trans' p1 k2 hr1'
    by_cases q : 1 < l
    · rw [if_pos q] at ea
      rw [decide_eq_true (by omega), if_pos rfl]
      refine st_lst1 (st_args (st_var rfl (st_nil ⟨by simp, ?_⟩)))
      have p3 := Sub.push S2 (O.lst [D.int (l : Int)])
      refine ⟨_, _, o_addLL (p3 _ _ e2) push_at (by rw [iL_len, iN_len]; simp only [List.length_cons, List.length_nil]; omega), WP_ok.mpr ?_⟩
      have n3 := sub_len p3
      have := sub_len sB
      refine hQ _ _ (sB.trans (p3.trans (Sub.push _ _))) (by omega) ?_
      rw [← ea]
      have e : iL (iN acc) ++ [D.int (l : Int)] = iL (iN (acc ++ [l])) := by rw [iN_app]; unfold iL; rw [List.map_append]; rfl
      rw [e]
      exact push_at
    · rw [if_neg q, List.append_nil] at ea
      rw [decide_eq_false (by omega), if_neg (by decide)]
      refine st_ok d_nil ?_
      have p3 := Sub.push S2 (O.lst [])
      refine ⟨_, _, o_addLL (p3 _ _ e2) push_at (by rw [iL_len, iN_len]; simp only [List.length_nil]; omega), WP_ok.mpr ?_⟩
      have n3 := sub_len p3
      have := sub_len sB
      refine hQ _ _ (sB.trans (p3.trans (Sub.push _ _))) (by omega) ?_
      rw [← ea, List.append_nil]
      exact push_at
theorem w_factors (h1 : 1 ≤ n) (hn : n ≤ 2000000000) (hQ : ∀ r S', Sub S S' → S.length ≤ r → S'[r]? = some (.lst (iL (iN (fac n)))) → Q (.ref r) S') : WP (f_factors_in [.int (n : Int)] S) Q := by
  unfold f_factors_in
  rw [mkFn_wp]
  unfold b_factors_in n_factors_in
  simp only [List.map_cons, List.map_nil, List.length_cons, List.length_nil, List.cons_append, List.nil_append, List.replicate]
  refine st_asg3 (st_ok d_nil (st_var rfl (st_c ?_)))
  have p1 := Sub.push S (O.lst [])
  have g1 : (S ++ [O.lst []])[S.length]? = some (.lst (iL [])) := push_at
  generalize hr1 : S.length = r1 at g1 ⊢
  have hr1' : S.length ≤ r1 := by omega
  generalize S ++ [O.lst []] = S1 at *
  simp only [List.set_cons_succ, List.set_cons_zero]
  rw [q_seq, WP_bind, q_while]
  refine wp_while (fun m env S' => ∃ (acc : List Nat) (l f : Nat), env = [some (.int (n : Int)), some (.ref r1), some (.int (l : Int)), some (.int (f : Int))] ∧ S'[r1]? = some (.lst (iL (iN acc))) ∧ Kp r1 S1 S' ∧ 2 ≤ f ∧ 1 ≤ l ∧ l ≤ n ∧ acc ++ fg l f = fac n ∧ NoSm l f ∧ 2 ^ acc.length * l ≤ n ∧ f ≤ n + 2 ∧ m = 2 * l + 1 - f) (2 * n + 1 - 2) (by omega)
    ⟨[], n, 2, rfl, g1, Kp.refl _ _, by omega, h1, Nat.le_refl _, rfl, fun d h2 hd => by omega, by simp, by omega, rfl⟩ (fun m env S2 ⟨acc, l, f, he, e2, k2, f2, l1, ln, ea, ns, bl, fn, em⟩ => ?_)
  subst he
  have lenA : ∀ {acc : List Nat} {l : Nat}, 1 ≤ l → 2 ^ acc.length * l ≤ n → acc.length ≤ 40 := fun {acc l} h1 h => by
    have : 2 ^ acc.length ≤ 2 ^ 40 := by
      have := Nat.le_mul_of_pos_right (2 ^ acc.length) h1
      omega
    exact (Nat.pow_le_pow_iff_right (by decide)).mp this
  by_cases hc : f * f ≤ l
  · have hs := sq_le f2 hc
    refine st_cmp ?_
    refine st_bin (st_var rfl (st_var rfl ⟨_, _, mul_nat (by omega) (by omega), st_var rfl ⟨true, S2, by rw [o_le, decide_eq_true (by omega)], ?_⟩⟩))
    rw [if_pos rfl, q_seq, WP_bind, q_while]
    refine wp_while (fun m env S' => ∃ (acc : List Nat) (l' : Nat), env = [some (.int (n : Int)), some (.ref r1), some (.int (l' : Int)), some (.int (f : Int))] ∧ S'[r1]? = some (.lst (iL (iN acc))) ∧ Kp r1 S1 S' ∧ 1 ≤ l' ∧ l' ≤ l ∧ acc ++ fg l' f = fac n ∧ NoSm l' f ∧ 2 ^ acc.length * l' ≤ n ∧ m = l') l (by omega)
      ⟨acc, l, rfl, e2, k2, l1, Nat.le_refl _, ea, ns, bl, rfl⟩ (fun m' env S3 ⟨acc, l', he, e3, k3, l1', ll', ea', ns', bl', em'⟩ => ?_)
    subst he
    refine st_cmp (st_bin (st_var rfl (st_var rfl ⟨_, _, m_nat f2, st_c ⟨_, _, z_nat, ?_⟩⟩)))
    have la := lenA l1' bl'
    by_cases e : l' % f = 0
    · rw [decide_eq_true e, if_pos rfl, q_seq, WP_bind]
      have hh := half_div (l := l') f2
      have el : f * (l' / f) = l' := Nat.mul_div_cancel' (Nat.dvd_of_mod_eq_zero e)
      refine st_app' (ro := r1) (acc := iN acc) (v := (f : Int)) rfl rfl e3 (by rw [iN_len]; omega) ?_
      dsimp only
      rw [q_aug]
      have dn := d_nat (S := S3.set r1 (.lst (iL (iN acc ++ [(f : Int)])))) (a := l') f2 (show f ≤ 2 ^ 40 by omega)
      simp only [List.getElem?_cons_zero, List.getElem?_cons_succ, q_var, Res.bind_ok, dn, q_ofO, WP_ok, List.set_cons_succ, List.set_cons_zero]
      have l1'' : 1 ≤ l' / f := Nat.pos_of_ne_zero fun z => by rw [z] at el; omega
      refine ⟨l' / f, by omega, acc ++ [f], l' / f, rfl, ?_, k3.trans Kp.set, l1'', by omega, ?_, ns'.div e, ?_, rfl⟩
      · rw [iN_app]; exact set_at e3
      · rw [← ea', fg_div' f2 l1' ns' e, List.append_assoc]; rfl
      · rw [List.length_append, List.length_cons, List.length_nil, Nat.pow_succ]
        have : 2 ^ acc.length * 2 * (l' / f) = 2 ^ acc.length * (2 * (l' / f)) := Nat.mul_assoc _ _ _
        rw [this]
        exact Nat.le_trans (Nat.mul_le_mul_left _ hh) bl'
    · rw [decide_eq_false e, if_neg (by decide)]
      dsimp only
      rw [q_aug]
      simp only [List.getElem?_cons_zero, List.getElem?_cons_succ, q_c, Res.bind_ok, o_addI, q_ofO, WP_ok, List.set_cons_succ, List.set_cons_zero]
      exact ⟨2 * l' + 1 - (f + 1), by omega, acc, l', f + 1, by rw [Int.natCast_add]; rfl, e3, k3, by omega, l1', by omega, by rw [← ea', fg_next' f2 e], ns'.next e, bl', by omega, rfl⟩
  · refine st_cmp ?_
    refine st_bin (st_var rfl (st_var rfl ⟨_, _, mul_nat (by omega) (by omega), st_var rfl ⟨false, S2, by rw [o_le, decide_eq_false (by omega)], ?_⟩⟩))
    rw [if_neg (by decide)]
    dsimp only
    rw [fg_end hc] at ea
    have sB : Sub S S2 := sub_trans' p1 k2 hr1'
    have la := lenA l1 bl
    rw [q_seq, WP_bind, q_sif, WP_bind]
    refine st_cmp (st_var rfl (st_c ⟨_, _, o_gt, ?_⟩))
    by_cases q : 1 < l
    · rw [if_pos q] at ea
      rw [decide_eq_true (by omega), if_pos rfl]
      refine st_app' (ro := r1) (acc := iN acc) (v := (l : Int)) rfl rfl e2 (by rw [iN_len]; omega) ?_
      dsimp only
      refine st_ret (st_var rfl (WP_ok.mpr (hQ r1 _ (sub_trans' p1 (k2.trans Kp.set) hr1') hr1' ?_)))
      rw [← ea, iN_app]
      exact set_at e2
    · rw [if_neg q, List.append_nil] at ea
      rw [decide_eq_false (by omega), if_neg (by decide)]
      refine WP_ok.mpr ?_
      dsimp only
      refine st_ret (st_var rfl (WP_ok.mpr (hQ r1 _ sB hr1' ?_)))
      rw [← ea]
      exact e2
end
end Zk01

namespace Zk01
open PySem PySem.Spec Z
def dueS (d : List Int) (p : Nat) : List Int := srtU (d ++ d.map fun x => x * (p : Int))
def due (fs : List Nat) : List Int := fs.foldl dueS [1]
def addK (K ms : List Int) : List Int := ms.foldl (fun acc m => if m ∈ acc then acc else acc ++ [m]) K
def keyS (K : List Int) (p : Nat) : List Int := addK K (K.map fun x => (p : Int) * x)
def keysF (fs : List Nat) : List Int := fs.foldl keyS [1]
theorem due_snoc {fs : List Nat} {p : Nat} : due (fs ++ [p]) = dueS (due fs) p := by unfold due; rw [List.foldl_append]; rfl
theorem keys_snoc {fs : List Nat} {p : Nat} : keysF (fs ++ [p]) = keyS (keysF fs) p := by unfold keysF; rw [List.foldl_append]; rfl
theorem mem_addK {x : Int} : ∀ {ms K : List Int}, x ∈ addK K ms ↔ x ∈ K ∨ x ∈ ms
  | [], K => by unfold addK; simp
  | m :: ms, K => by
    have e : addK K (m :: ms) = addK (if m ∈ K then K else K ++ [m]) ms := rfl
    rw [e, mem_addK]
    by_cases h : m ∈ K
    · rw [if_pos h, List.mem_cons]
      exact ⟨fun q => q.elim .inl fun q => .inr (.inr q), fun q => q.elim .inl fun q => q.elim (fun z => .inl (z ▸ h)) .inr⟩
    · rw [if_neg h, List.mem_append, List.mem_singleton, List.mem_cons, or_assoc]
theorem addK_nd : ∀ {ms K : List Int}, K.Nodup → (addK K ms).Nodup
  | [], K, h => h
  | m :: ms, K, h => by
    have e : addK K (m :: ms) = addK (if m ∈ K then K else K ++ [m]) ms := rfl
    rw [e]
    refine addK_nd ?_
    by_cases q : m ∈ K
    · rw [if_pos q]; exact h
    · rw [if_neg q, List.nodup_append]
      exact ⟨h, List.nodup_cons.mpr ⟨List.not_mem_nil, List.nodup_nil⟩, fun a ha b hb e => q (by rw [List.mem_singleton] at hb; rw [← hb, ← e]; exact ha)⟩
theorem snoc_ind {P : List Nat → Prop} (h0 : P []) (h1 : ∀ fs p, P fs → P (fs ++ [p])) : ∀ fs, P fs := fun fs => by
  have : ∀ l : List Nat, P l.reverse := fun l => by
    induction l with
    | nil => exact h0
    | cons x l ih => rw [List.reverse_cons]; exact h1 _ _ ih
  have q := this fs.reverse
  rwa [List.reverse_reverse] at q
theorem keys_nd : ∀ fs, (keysF fs).Nodup := snoc_ind (by decide) fun fs p h => by rw [keys_snoc]; exact addK_nd h
theorem due_up : ∀ fs, (due fs).Pairwise (· < ·) := snoc_ind (by decide) fun fs p h => by rw [due_snoc]; exact srtU_up _
theorem keys_due : ∀ fs : List Nat, ∀ x, x ∈ keysF fs ↔ x ∈ due fs := snoc_ind (fun x => Iff.rfl) fun fs p ih x => by
  rw [keys_snoc, due_snoc]
  unfold keyS dueS
  rw [mem_addK, mem_srtU, List.mem_append, List.mem_map, List.mem_map]
  have : (∃ a, a ∈ keysF fs ∧ (p : Int) * a = x) ↔ ∃ a, a ∈ due fs ∧ a * (p : Int) = x :=
    ⟨fun ⟨a, h, e⟩ => ⟨a, (ih a).mp h, by rw [Int.mul_comm]; exact e⟩, fun ⟨a, h, e⟩ => ⟨a, (ih a).mpr h, by rw [Int.mul_comm]; exact e⟩⟩
  rw [ih x, this]
theorem srt_keys (fs : List Nat) : srt (keysF fs) = due fs := by
  have p := srt_perm (keysF fs)
  exact strict_uniq (fun k => p.mem_iff.trans (keys_due fs k)) (lt_of_nd (srt_up _) (p.nodup_iff.mpr (keys_nd fs))) (due_up fs)
theorem keys_len (fs : List Nat) : (keysF fs).length = (due fs).length := by rw [← srt_keys, (srt_perm _).length_eq]
theorem prd_snoc {p : Nat} : ∀ {fs : List Nat}, prd (fs ++ [p]) = prd fs * p
  | [] => by show p * 1 = 1 * p; omega
  | x :: fs => by show x * prd (fs ++ [p]) = x * prd fs * p; rw [prd_snoc, Nat.mul_assoc]
theorem due_dvd : ∀ fs : List Nat, (∀ x ∈ fs, 1 ≤ x) → ∀ x ∈ due fs, ∃ m : Nat, x = (m : Int) ∧ m ∣ prd fs ∧ 1 ≤ m := snoc_ind (fun _ x hx => by
    rw [List.mem_singleton.mp hx]
    exact ⟨1, rfl, Nat.dvd_refl 1, Nat.le_refl 1⟩) fun fs p ih h x hx => by
  rw [due_snoc] at hx
  unfold dueS at hx
  rw [mem_srtU, List.mem_append, List.mem_map] at hx
  have hp : 1 ≤ p := h p (by simp)
  have h' : ∀ x ∈ fs, 1 ≤ x := fun x hx => h x (List.mem_append_left _ hx)
  rw [prd_snoc]
  rcases hx with hx | ⟨a, ha, rfl⟩
  · obtain ⟨m, e, d, q⟩ := ih h' x hx
    exact ⟨m, e, Nat.dvd_trans d (Nat.dvd_mul_right _ _), q⟩
  · obtain ⟨m, e, d, q⟩ := ih h' a ha
    exact ⟨m * p, by rw [e, Int.natCast_mul], Nat.mul_dvd_mul d (Nat.dvd_refl _), Nat.mul_le_mul q hp⟩
theorem prd_take {k : Nat} : ∀ {fs : List Nat}, prd (fs.take k) ∣ prd fs := fun {fs} => by
  have : ∀ (a b : List Nat), prd a ∣ prd (a ++ b) := fun a b => by
    induction a with
    | nil => exact Nat.one_dvd _
    | cons x a ih => exact Nat.mul_dvd_mul (Nat.dvd_refl x) ih
  have q := this (fs.take k) (fs.drop k)
  rwa [List.take_append_drop] at q
structure Few (n : Nat) : Prop where
  h1 : 1 ≤ n
  hn : n ≤ 1000000000
  few : ∀ k, (due ((fac n).take k)).length ≤ 2000
theorem fac_pos {n : Nat} : ∀ x ∈ fac n, 2 ≤ x := fun x hx => (fg_pos (2 * n + 2) n 2 (by omega) (by decide) x hx).1
theorem due_of {n k : Nat} (h1 : 1 ≤ n) : ∀ x ∈ due ((fac n).take k), ∃ m : Nat, x = (m : Int) ∧ m ∣ n ∧ 1 ≤ m := fun x hx => by
  obtain ⟨m, e, d, q⟩ := due_dvd _ (fun x hx => by have := fac_pos x (List.mem_of_mem_take hx); omega) x hx
  have := Nat.dvd_trans d prd_take
  rw [fac_prd h1] at this
  exact ⟨m, e, this, q⟩
theorem few_small {n : Nat} (h1 : 1 ≤ n) (hn : n ≤ 1000000) : Few n := ⟨h1, by omega, fun k => by
  have nd := nd_of_lt (due_up ((fac n).take k))
  have h := due_of (k := k) h1
  have q := divs_le (l := (due ((fac n).take k)).map Int.toNat) (n := n) (s := 1000) (nodup_map nd fun x hx y hy e => ?_) (by omega) (by omega) fun z hz => ?_
  · rw [List.length_map] at q; omega
  · obtain ⟨a, rfl, _⟩ := h x hx
    obtain ⟨b, rfl, _⟩ := h y hy
    have e' : (a : Int).toNat = (b : Int).toNat := e
    rw [Int.toNat_natCast, Int.toNat_natCast] at e'
    rw [e']
  · obtain ⟨x, hx, rfl⟩ := List.mem_map.mp hz
    obtain ⟨a, rfl, d, _⟩ := h x hx
    rw [Int.toNat_natCast]; exact d⟩
theorem few_of {n : Nat} {fs : List Nat} (h1 : 1 ≤ n) (hn : n ≤ 1000000000) (e : fac n = fs) (h : ((List.range (fs.length + 1)).all fun k => decide ((due (fs.take k)).length ≤ 2000)) = true) : Few n := ⟨h1, hn, fun k => by
  rw [e]
  rw [List.all_eq_true] at h
  by_cases hk : k < fs.length + 1
  · exact of_decide_eq_true (h k (List.mem_range.mpr hk))
  · rw [List.take_of_length_le (by omega)]
    have := of_decide_eq_true (h fs.length (List.mem_range.mpr (by omega)))
    rwa [List.take_of_length_le (Nat.le_refl _)] at this⟩
theorem few_ten : Few 1000000000 := few_of (by decide) (by decide) fac_ten (by decide +kernel)
theorem few_big : Few 999999937 := few_of (by decide) (by decide) fac_big (by decide +kernel)
end Zk01

namespace Zk01
open PySem PySem.Spec Z
section
variable {S S' S0 : Store} {x y d : D} {ds es acc : List D} {l K ms : List Int} {Q : D → Store → Prop} {QF : Fl → Store → Prop} {n k q r p i : Nat} {env : En}
def kv (K : List Int) : List (L2.Key × D) := K.map fun x => ((Sum.inl x : L2.Key), D.bl true)
theorem kv_len : (kv K).length = K.length := List.length_map _
theorem has_kv {m : Int} : hasKD (kv K) (.inl m) = decide (m ∈ K) := by
  unfold hasKD kv
  rw [List.any_map]
  by_cases h : m ∈ K
  · rw [decide_eq_true h, List.any_eq_true]
    exact ⟨m, h, by simp⟩
  · rw [decide_eq_false h, List.any_eq_false]
    intro x hx
    simp only [Function.comp_apply, decide_eq_true_eq]
    intro e
    exact h (Sum.inl.inj e ▸ hx)
theorem put_kv {m : Int} : putKD (kv K) (.inl m) (.bl true) = kv (if m ∈ K then K else K ++ [m]) := by
  unfold putKD
  rw [has_kv]
  by_cases h : m ∈ K
  · rw [decide_eq_true h, if_pos rfl, if_pos h]
    unfold kv
    rw [List.map_map]
    refine List.map_congr_left fun x _ => ?_
    simp only [Function.comp_apply]
    by_cases e : (Sum.inl x : L2.Key) = .inl m
    · rw [if_pos e]
    · rw [if_neg e]
  · rw [decide_eq_false h, if_neg (by decide), if_neg h]
    unfold kv
    rw [List.map_append]; rfl
theorem merge_kv : ∀ {ms K : List Int}, mergeKD (kv K) (kv ms) = kv (addK K ms)
  | [], K => rfl
  | m :: ms, K => by
    have e : mergeKD (kv K) (kv (m :: ms)) = mergeKD (putKD (kv K) (.inl m) (.bl true)) (kv ms) := rfl
    rw [e, put_kv, merge_kv]
    rfl
theorem keys_lk : (((kv K).map fun p => ([p.1], D.non)).map (·.1)).flatten.map kD = iL K := by
  rw [lk_keys]
  unfold kv iL
  rw [List.map_map, List.map_map]; rfl
theorem int_kv : ∀ {K : List Int}, intKeys (kv K) = some K
  | [] => rfl
  | x :: K => by
    show (intKeys (kv K)).map (x :: ·) = _
    rw [int_kv]; rfl
theorem st_lk {kvs : List (L2.Key × D)} {b : DE} (e : env[n]? = some (some (.ref i))) (g : S[i]? = some (.dK kvs)) (h : WP (b env (S.set i (lkO kvs))) fun x S2 => ∃ l, S2[i]? = some (.dT l) ∧ Q x (S2.set i (.dK kvs))) : WP (dLk n b env S) Q := by
  unfold dLk
  rw [e]
  dsimp only
  rw [g]
  dsimp only
  unfold unlk
  rw [WP_bind, WP_cut]
  refine WP_mono h fun x S2 ⟨l, g2, q⟩ => ?_
  rw [g2]
  exact WP_ok.mpr q
def pt (x : Int) : D := .tup [.int x, .bl true]
theorem seq_pt : ∀ {l : List Int}, seqO ((l.map pt).map pairD) = some (kv l)
  | [] => rfl
  | x :: l => by
    rw [List.map_cons, List.map_cons]
    have e : pairD (pt x) = some (.inl x, .bl true) := rfl
    rw [e]
    unfold seqO
    rw [seq_pt]; rfl
theorem w_upd (hp : 1 ≤ p) (hp2 : p ≤ 2000000000) (g : S[r]? = some (.dK (kv K))) (hK : K.length ≤ 4000) (hb : ∀ x ∈ K, x.natAbs ≤ 2000000000) (e1 : env[1]? = some (some (.ref r))) (e2 : env[2]? = some (some (.int (p : Int)))) (he : 3 < env.length)
    (hQ : ∀ S', Kp r S S' → S.length ≤ S'.length → S'[r]? = some (.dK (kv (keyS K p))) → QF (.nx env) S') :
    WP (sExpr (dMeth isD mUpdate (dVar 1) (dCons (dLk 1 (dLc (iLk 1) (gNm 3) tYes1 (dTup (dCons (dBin oMulA (dVar 2) (dVar 3)) (dCons (dC (.bl true)) dNil))) [3])) dNil)) env S) QF := by
  have hr := lt_of_at g
  rw [q_expr, WP_bind, q_meth, WP_bind, q_var, e1]
  refine WP_ok.mpr ?_
  rw [if_pos (by unfold isD; simp only [g]), WP_bind]
  refine st_args ?_
  refine st_lk e1 g ?_
  have gl : (S.set r (lkO (kv K)))[r]? = some (lkO (kv K)) := set_at g
  have k0 : Kp r S (S.set r (lkO (kv K))) := Kp.set
  have n0 : (S.set r (lkO (kv K))).length = S.length := List.length_set
  generalize S.set r (lkO (kv K)) = S1 at *
  refine wp_rel (fun _ d (x : Int) => d = pt x) (fun _ _ _ _ h _ => h) K (iL K) (fun _ => true) (fun x => (p : Int) * x) (by omega) (iL_len _) ?_ (fun j a da S3 hj hd3 s3 => ?_) fun S3 ys s3 hys => ?_
  · have e : iLk 1 env S1 = .ok (jT (iL K)) S1 := by
      unfold iLk
      rw [e1]
      dsimp only
      rw [gl]
      unfold lkO
      dsimp only
      rw [keys_lk]
    rw [e]
    exact WP_ok.mpr ⟨Sub.refl _, fun k S2 _ _ => rfl⟩
  · have ed : da = .int a := by
      unfold iL at hd3
      rw [List.getElem?_map, hj] at hd3
      exact (Option.some.inj hd3).symm
    subst ed
    rw [q_gnm, wipe_cons, wipe_nil]
    refine WP_ok.mpr (WP_ok.mpr ⟨rfl, Sub.refl _, fun _ => ?_⟩)
    have f2 : ((env.set 3 none).set 3 (some (.int a)))[2]? = some (some (.int (p : Int))) := by rw [List.getElem?_set_ne (by decide), List.getElem?_set_ne (by decide)]; exact e2
    have f3 : ((env.set 3 none).set 3 (some (.int a)))[3]? = some (some (.int a)) := by rw [List.getElem?_set_self (by simpa using he)]
    have hm : mulOk (p : Int) a = true := mulW (a := 40) (b := 40) (by omega) (by have := hb a (List.mem_of_getElem? hj); omega) (by decide)
    simp only [q_tup, q_cons, q_nil, q_bin, q_c, q_var, f2, f3, Res.bind_ok, o_mul hm, q_ofO, List.length_cons, List.length_nil]
    rw [if_pos (by have : sl = 16777216 := rfl; omega)]
    exact WP_ok.mpr ⟨rfl, Sub.refl _⟩
  · rw [filter_tt] at hys
    have ey : ys = (K.map fun x => (p : Int) * x).map pt := by
      refine List.ext_getElem (by rw [hys.1, List.length_map, List.length_map, List.length_map]) fun j h1 h2 => ?_
      have hj : j < (K.map fun x => (p : Int) * x).length := by rw [List.length_map] at h2; exact h2
      rw [List.getElem_map]
      exact hys.2 j _ _ (List.getElem?_eq_getElem h1) (List.getElem?_eq_getElem hj)
    subst ey
    have p4 := Sub.push S3 (O.lst ((K.map fun x => (p : Int) * x).map pt))
    have g4 := (s3.trans p4) _ _ gl
    refine ⟨_, g4, st_nil ?_⟩
    have n3 := sub_len s3
    have gj : (S3 ++ [O.lst ((K.map fun x => (p : Int) * x).map pt)])[S3.length]? = some (.lst ((K.map fun x => (p : Int) * x).map pt)) := push_at
    have k4 : Kp r S (S3 ++ [O.lst ((K.map fun x => (p : Int) * x).map pt)]) := k0.trans (s3.trans p4).kp
    have n4 := sub_len p4
    generalize hj : S3.length = j at gj n3 n4 ⊢
    generalize S3 ++ [O.lst ((K.map fun x => (p : Int) * x).map pt)] = S4 at *
    have g5 : (S4.set r (.dK (kv K)))[r]? = some (.dK (kv K)) := set_at g4
    have gj5 : (S4.set r (.dK (kv K)))[j]? = some (.lst ((K.map fun x => (p : Int) * x).map pt)) := Kp.set j _ (by omega) gj
    have n5 : (S4.set r (.dK (kv K))).length = S4.length := List.length_set
    have k5 : Kp r S (S4.set r (.dK (kv K))) := k4.trans Kp.set
    generalize S4.set r (.dK (kv K)) = S5 at *
    have em : mUpdate (.ref r) [.ref j] S5 = some (.non, S5.set r (.dK (kv (keyS K p)))) := by
      unfold mUpdate
      simp only [g5, gj5, seq_pt, Option.bind_some, kv_len, List.length_map]
      rw [if_pos (by have : sl = 16777216 := rfl; omega), merge_kv]
      rfl
    rw [em]
    exact WP_ok.mpr (WP_ok.mpr (hQ _ (k5.trans Kp.set) (by rw [List.length_set]; omega) (set_at g5)))
end
end Zk01

namespace Zk01
open PySem PySem.Spec Z
section
variable {S S' S0 : Store} {x y d : D} {ds es acc : List D} {l K ms : List Int} {Q : D → Store → Prop} {QF : Fl → Store → Prop} {n k q r p i : Nat} {env : En} {v : Int}
theorem e_whole : f_is_whole [.int v] S = .ok (.bl true) S := rfl
def isI (v : Int) : Bool := decide (-(1000000000000000000000000000000000000000000000000000000000000 : Int) < v) && decide (v < 1000000000000000000000000000000000000000000000000000000000000)
theorem e_integer : f_is_integer [.int v] S = .ok (.bl (isI v)) S := by
  have w : WP (f_is_integer [.int v] S) fun x S1 => x = .bl (isI v) ∧ S1 = S := by
    unfold f_is_integer
    rw [mkFn_wp]
    unfold b_is_integer n_is_integer
    simp only [List.map_cons, List.map_nil, List.length_cons, List.length_nil, List.cons_append, List.nil_append, List.replicate]
    refine st_ret (st_and ?_)
    refine st_call (xs := [.int v]) rfl ?_
    rw [e_whole]
    refine WP_ok.mpr ⟨rfl, ?_⟩
    rw [q_chain]
    simp only [q_un, q_c, q_var, List.getElem?_cons_zero, Res.bind_ok, o_neg, q_ofO, o_lt]
    unfold isI
    by_cases h : -(1000000000000000000000000000000000000000000000000000000000000 : Int) < v
    · rw [decide_eq_true h]
      exact WP_ok.mpr (WP_ok.mpr ⟨rfl, rfl⟩)
    · rw [decide_eq_false h]
      exact WP_ok.mpr (WP_ok.mpr ⟨rfl, rfl⟩)
  obtain ⟨d, S1, e, rfl, rfl⟩ := w
  exact e
theorem isI_of (h : v.natAbs ≤ 10 ^ 50) : isI v = true := by
  unfold isI
  rw [Bool.and_eq_true, decide_eq_true_eq, decide_eq_true_eq]
  omega
theorem prd_two : ∀ {fs : List Nat}, (∀ x ∈ fs, 2 ≤ x) → 2 ^ fs.length ≤ prd fs
  | [], _ => Nat.le_refl _
  | x :: fs, h => by
    rw [List.length_cons, Nat.pow_succ, Nat.mul_comm]
    exact Nat.mul_le_mul (h x List.mem_cons_self) (prd_two fun y hy => h y (List.mem_cons_of_mem _ hy))
theorem fac_len (h1 : 1 ≤ n) (hn : n ≤ 1000000000) : (fac n).length ≤ 30 := by
  have := prd_two (fs := fac n) fac_pos
  rw [fac_prd h1] at this
  exact (Nat.pow_le_pow_iff_right (a := 2) (by decide)).mp (by omega)
theorem w_reqfac (h1 : 1 ≤ n) (hn : n ≤ 1000000000) (hQ : Q .non S) : WP (f_require_factored [.int (n : Int)] S) Q := by
  unfold f_require_factored
  rw [mkFn_wp]
  unfold b_require_factored n_require_factored
  simp only [List.map_cons, List.map_nil, List.length_cons, List.length_nil, List.cons_append, List.nil_append, List.replicate]
  refine st_if (st_or (st_not (st_tst ?_)))
  refine st_call (xs := [.int (n : Int)]) rfl ?_
  rw [e_integer, isI_of (by omega)]
  refine WP_ok.mpr ⟨true, rfl, rfl, ?_⟩
  refine st_cmp (st_var rfl (st_c ⟨_, _, o_lt, decide_eq_false (by omega), ?_⟩))
  rw [q_sif, WP_bind]
  refine st_cmp (st_var rfl (st_c ⟨_, _, o_gt, ?_⟩))
  rw [decide_eq_false (by omega), if_neg (by decide)]
  exact WP_ok.mpr (WP_ok.mpr hQ)
theorem w_divisors_in (F : Few n) (hQ : ∀ r S', Sub S S' → S.length ≤ r → S'[r]? = some (.lst (iL (due (fac n)))) → Q (.ref r) S') : WP (f_divisors_in [.int (n : Int)] S) Q := by
  have h1 := F.h1
  have hn := F.hn
  unfold f_divisors_in
  rw [mkFn_wp]
  unfold b_divisors_in n_divisors_in
  simp only [List.map_cons, List.map_nil, List.length_cons, List.length_nil, List.cons_append, List.nil_append, List.replicate]
  refine st_asg ?_
  refine st_ok (v := .ref S.length) (S := S ++ [.dK (kv [1])]) rfl ?_
  have p1 := Sub.push S (O.dK (kv [1]))
  have g1 : (S ++ [O.dK (kv [1])])[S.length]? = some (.dK (kv [1])) := push_at
  generalize hr1 : S.length = r1 at g1 ⊢
  have hr1' : S.length ≤ r1 := by omega
  generalize S ++ [O.dK (kv [1])] = S1 at *
  simp only [List.set_cons_succ, List.set_cons_zero]
  have w : WP ((dCall f_factors_in (dCons (dVar 0) dNil)) [some (.int (n : Int)), some (.ref r1), none, none] S1) fun u S2 => Sub S1 S2 ∧ ∃ r, u = .ref r ∧ S1.length ≤ r ∧ S2[r]? = some (.lst (iL (iN (fac n)))) :=
    st_call (xs := [.int (n : Int)]) rfl (w_factors h1 (by omega) fun r S2 s2 hr e2 => ⟨s2, r, rfl, hr, e2⟩)
  obtain ⟨u, S2, eu, s2, rf, rfl, hrf, e2⟩ := w
  have lt1 := lt_of_at g1
  rw [q_seq, WP_bind, q_for, WP_bind, q_seqi, eu, Res.bind_ok, seqR e2]
  refine WP_ok.mpr ?_
  refine wp_for (fac n).length (fun k env S' => ∃ x2, env = [some (.int (n : Int)), some (.ref r1), x2, none] ∧ Kp r1 S2 S' ∧ S'[r1]? = some (.dK (kv (keysF ((fac n).take k))))) (by have := fac_len h1 hn; omega) ⟨none, rfl, Kp.refl _ _, s2 _ _ g1⟩
    (fun k env S3 hk ⟨x2, he, k3, g3⟩ => ⟨.int (((fac n)[k] : Nat) : Int), ?_, ?_⟩) fun env S3 ⟨x2, he, k3, g3⟩ => ⟨?_, ?_⟩
  · rw [jL_at (k3 _ _ (by omega) e2)]
    unfold iL iN
    rw [List.map_map, List.getElem?_map, List.getElem?_eq_getElem hk]; rfl
  · subst he
    have hm := List.getElem_mem hk
    have hp := fac_pos _ hm
    have hpn := (fg_pos (2 * n + 2) n 2 (by omega) (by decide) _ hm).2
    rw [q_gnm]
    refine WP_ok.mpr ?_
    simp only [List.set_cons_succ, List.set_cons_zero]
    have kl := F.few k
    refine w_upd (p := (fac n)[k]) (by omega) (by omega) g3 (by rw [keys_len]; omega) (fun x hx => ?_) rfl rfl (by simp) fun S4 k4 n4 g4 => ?_
    · obtain ⟨m, rfl, d, _⟩ := due_of (k := k) h1 x ((keys_due _ x).mp hx)
      have := Nat.le_of_dvd (by omega) d
      omega
    · refine ⟨_, rfl, k3.trans k4, ?_⟩
      rw [List.take_succ_eq_append_getElem hk, keys_snoc]
      exact g4
  · rw [jL_at (k3 _ _ (by omega) e2), List.getElem?_eq_none (by rw [iL_len, iN_len]; exact Nat.le_refl _)]
  · subst he
    rw [List.take_length] at g3
    refine st_ret ?_
    rw [q_callB, WP_bind]
    refine st_args (st_var rfl (st_nil ?_))
    have e : (orB (b1 fSortI) (orB (b1 fSortL) (b1 fSortD))) [.ref r1] S3 = some (.ref S3.length, S3 ++ [.lst (iL (due (fac n)))]) := by
      have a1 : b1 fSortI [.ref r1] S3 = none := by simp only [q_b1, fSortI, itemsL, g3]; rfl
      have a2 : b1 fSortL [.ref r1] S3 = none := by simp only [q_b1, fSortL, itemsL, g3]
      have a3 : b1 fSortD [.ref r1] S3 = some (.ref S3.length, S3 ++ [.lst (iL (due (fac n)))]) := by
        simp only [q_b1, fSortD, g3, int_kv, Option.map_some, srt_keys]; rfl
      unfold orB
      rw [a1, a2, a3]
    rw [e, q_ofO]
    have s3 : Sub S S3 := sub_trans' (p1.trans s2) k3 hr1'
    have := sub_len s3
    exact WP_ok.mpr (WP_ok.mpr (hQ _ _ (s3.trans (Sub.push _ _)) this push_at))
theorem w_divisors (F : Few n) (hQ : ∀ S', Sub S S' → Q (.tup (iL (due (fac n)))) S') : WP (f_divisors [.int (n : Int)] S) Q := by
  unfold f_divisors
  rw [mkFn_wp]
  unfold b_divisors n_divisors
  simp only [List.map_cons, List.map_nil, List.length_cons, List.length_nil, List.cons_append, List.nil_append, List.replicate]
  refine st_expr (st_call (xs := [.int (n : Int)]) rfl (w_reqfac F.h1 F.hn ?_))
  refine st_ret ?_
  rw [q_callB, WP_bind]
  refine st_args ?_
  refine st_call (xs := [.int (n : Int)]) rfl (w_divisors_in F fun r S1 s1 _ e1 => st_nil ?_)
  rw [q_b1, f_tuple, itemsR e1]
  exact WP_ok.mpr (WP_ok.mpr (hQ S1 s1))
def nf (n : Nat) : Nat := (srtU (iN (fac n))).length
theorem ints_i : ∀ l : List Int, intsOf (iL l) = some l
  | [] => rfl
  | a :: l => by
    show (intsOf (iL l)).map (a :: ·) = _
    rw [ints_i l]; rfl
theorem e_lenW {a : DE} (ha : a env S = .ok x S) (hx : Sq S x l) (hl : l.length ≤ 4000) : dLenW a env S = .ok (.int ((srtU l).length : Nat)) S := by
  unfold dLenW
  rw [ha, Res.bind_ok, hx.items, Option.bind_some, show intsOf (iL l) = some l from ints_i l]
  dsimp only
  rw [if_pos hl]
def mob (n : Nat) : Int := if nf n < (fac n).length then 0 else 1 - 2 * (((fac n).length % 2 : Nat) : Int)
theorem w_moebius (h1 : 1 ≤ n) (hn : n ≤ 1000000000) (hQ : ∀ S', Sub S S' → Q (.int (mob n)) S') : WP (f_moebius [.int (n : Int)] S) Q := by
  unfold f_moebius
  rw [mkFn_wp]
  unfold b_moebius n_moebius
  simp only [List.map_cons, List.map_nil, List.length_cons, List.length_nil, List.cons_append, List.nil_append, List.replicate]
  refine st_expr (st_call (xs := [.int (n : Int)]) rfl (w_reqfac h1 hn ?_))
  refine st_ret (st_call (xs := [.int (n : Int)]) rfl ?_)
  unfold f_moebius_in
  rw [mkFn_wp]
  unfold b_moebius_in n_moebius_in
  simp only [List.map_cons, List.map_nil, List.length_cons, List.length_nil, List.cons_append, List.nil_append, List.replicate]
  refine st_asg (st_call (xs := [.int (n : Int)]) rfl (w_factors h1 (by omega) fun r S1 s1 _ e1 => ?_))
  simp only [List.set_cons_succ, List.set_cons_zero]
  have lf := fac_len h1 hn
  have e2 : dCallB (b1 fLen) (dCons (dVar 1) dNil) [some (.int (n : Int)), some (.ref r)] S1 = .ok (.int ((fac n).length : Nat)) S1 := by
    simp only [q_callB, q_cons, q_nil, q_var, List.getElem?_cons_zero, List.getElem?_cons_succ, Res.bind_ok, q_b1, f_lenR e1, q_ofO, iL_len, iN_len]
  rw [q_seq, WP_bind, q_sif, WP_bind]
  refine st_cmp (st_ok (e_lenW (l := iN (fac n)) (x := .ref r) rfl (.lst e1) (by rw [iN_len]; omega)) (st_ok e2 ⟨_, S1, o_lt, ?_⟩))
  by_cases h : nf n < (fac n).length
  · have e : mob n = 0 := by unfold mob; rw [if_pos h]
    unfold nf at h
    rw [decide_eq_true (by omega), if_pos rfl]
    refine st_ret (st_c (WP_ok.mpr (WP_ok.mpr (WP_ok.mpr ?_))))
    rw [← e]; exact hQ S1 s1
  · have e : mob n = 1 - 2 * (((fac n).length % 2 : Nat) : Int) := by unfold mob; rw [if_neg h]
    unfold nf at h
    rw [decide_eq_false (by omega), if_neg (by decide)]
    refine WP_ok.mpr ?_
    dsimp only
    refine st_ret ?_
    rw [q_if, WP_bind]
    refine st_cmp (st_bin (st_ok e2 (st_c ⟨_, _, m_nat (b := 2) (by decide), st_c ⟨_, S1, o_eqI, ?_⟩⟩)))
    by_cases q : (fac n).length % 2 = 1
    · rw [decide_eq_true (by omega), if_pos rfl]
      refine st_ok (v := .int (-1)) (S := S1) (by simp only [q_un, q_c, Res.bind_ok, o_neg, q_ofO]) (WP_ok.mpr (WP_ok.mpr ?_))
      have : (-1 : Int) = mob n := by rw [e, q]; rfl
      rw [this]; exact hQ S1 s1
    · rw [decide_eq_false (by omega), if_neg (by decide)]
      refine st_c (WP_ok.mpr (WP_ok.mpr ?_))
      have : (1 : Int) = mob n := by rw [e, show (fac n).length % 2 = 0 by omega]; rfl
      rw [this]; exact hQ S1 s1
theorem one_fac (h1 : 1 ≤ n) : (iN (fac n) = [(n : Int)]) ↔ (fac n).length = 1 := by
  refine ⟨fun e => by rw [← iN_len, e]; rfl, fun e => ?_⟩
  obtain ⟨x, hx⟩ := List.length_eq_one_iff.mp e
  have := fac_prd h1
  rw [hx] at this ⊢
  have : x * 1 = n := this
  rw [Nat.mul_one] at this
  rw [this]; rfl
theorem w_isprime (h1 : 1 ≤ n) (hn : n ≤ 1000000000) (hQ : ∀ S', Sub S S' → Q (.bl (decide ((fac n).length = 1))) S') : WP (f_is_prime [.int (n : Int)] S) Q := by
  unfold f_is_prime
  rw [mkFn_wp]
  unfold b_is_prime n_is_prime
  simp only [List.map_cons, List.map_nil, List.length_cons, List.length_nil, List.cons_append, List.nil_append, List.replicate]
  refine st_ret (st_and ?_)
  refine st_call (xs := [.int (n : Int)]) rfl ?_
  rw [e_whole]
  refine WP_ok.mpr ⟨rfl, ?_⟩
  rw [q_andV, WP_bind, q_chain]
  simp only [q_c, q_var, List.getElem?_cons_zero, Res.bind_ok, q_ofO, o_lt]
  by_cases h : 1 < n
  · rw [decide_eq_true (by omega)]
    simp only [q_c, q_var, List.getElem?_cons_zero, Res.bind_ok, q_ofO, o_le]
    rw [decide_eq_true (by omega)]
    refine WP_ok.mpr ?_
    rw [ofB_bl, Res.bind_ok, if_pos rfl]
    refine st_bin ?_
    refine st_call (xs := [.int (n : Int)]) rfl (w_factors h1 (by omega) fun r S1 s1 _ e1 => ?_)
    refine st_lst1 (st_args (st_var rfl (st_nil ⟨by simp, ?_⟩)))
    have p2 := Sub.push S1 (O.lst [D.int (n : Int)])
    refine ⟨_, _, eq_lst (p2 _ _ e1) (show _ = some (.lst (iL [(n : Int)])) from push_at), WP_ok.mpr ?_⟩
    have e : decide (iN (fac n) = [(n : Int)]) = decide ((fac n).length = 1) := decide_eq_decide.mpr (one_fac h1)
    rw [e]
    exact hQ _ (s1.trans p2)
  · have : n = 1 := by omega
    subst this
    have e : decide ((fac 1).length = 1) = false := by
      have : fac 1 = [] := fgf_ok (m := 1) (by decide) (by decide)
      rw [this]; rfl
    rw [decide_eq_false (by decide)]
    refine WP_ok.mpr ?_
    rw [ofB_bl, Res.bind_ok, if_neg (by decide)]
    refine WP_ok.mpr (WP_ok.mpr ?_)
    rw [← e]
    exact hQ S (Sub.refl S)
end
end Zk01

namespace Zk01
open PySem PySem.Spec Z
section
variable {S S' S0 : Store} {x y d : D} {ds es acc : List D} {l K ms : List Int} {Q : D → Store → Prop} {QF : Fl → Store → Prop} {n k q r p i m : Nat} {env : En} {v : Int}
theorem e_sortW {a : DE} (ha : a env S = .ok x S') (hx : Sq S' x l) (hl : l.length ≤ 4000) : dSortW a env S = .ok (.ref S'.length) (S' ++ [.lst (iL (srtU l))]) := by
  unfold dSortW
  rw [ha, Res.bind_ok, hx.items, Option.bind_some, ints_i l]
  dsimp only
  rw [if_pos hl]; rfl
theorem eq_bl {c : Bool} : oEq (.bl c) (.bl c) S = some (.bl true, S) := by
  rw [o_eqP (S := S) (p := .bool c) (q := .bool c) rfl rfl]
  cases c <;> rfl
theorem w_isparted (F : Few n) (hQ : ∀ S', Sub S S' → Q (.bl true) S') : WP (f__law_is_parted [.int (n : Int)] S) Q := by
  have h1 := F.h1
  have hn := F.hn
  have lf := fac_len h1 hn
  unfold f__law_is_parted
  rw [mkFn_wp]
  unfold b__law_is_parted n__law_is_parted
  simp only [List.map_cons, List.map_nil, List.length_cons, List.length_nil, List.cons_append, List.nil_append, List.replicate]
  refine st_asg2 ?_
  refine st_call (xs := [.int (n : Int)]) rfl (w_lfactors h1 (by omega) fun rf S1 s1 _ e1 => ?_)
  refine st_lst1 (st_args (st_c (st_nil ⟨by simp, ?_⟩)))
  have p2 := Sub.push S1 (O.lst [D.int 1])
  have g2 : (S1 ++ [O.lst [D.int 1]])[S1.length]? = some (.lst (iL (due ((fac n).take 0)))) := push_at
  have s2 := s1.trans p2
  have e2 := p2 _ _ e1
  generalize S1.length = r2 at g2 ⊢
  generalize S1 ++ [O.lst [D.int 1]] = S2 at *
  simp only [List.set_cons_succ, List.set_cons_zero]
  rw [q_seq, WP_bind, q_for, WP_bind, q_seqi, q_var]
  simp only [List.getElem?_cons_zero, List.getElem?_cons_succ, Res.bind_ok, seqR e2]
  refine WP_ok.mpr ?_
  refine wp_for (fac n).length (fun k env S' => ∃ r x3, env = [some (.int (n : Int)), some (.ref rf), some (.ref r), x3, none, none] ∧ Sub S2 S' ∧ S'[r]? = some (.lst (iL (due ((fac n).take k))))) (by omega) ⟨r2, none, rfl, Sub.refl _, g2⟩
    (fun k env S3 hk ⟨r, x3, he, s3, g3⟩ => ⟨.int (((fac n)[k] : Nat) : Int), ?_, ?_⟩) fun env S3 ⟨r, x3, he, s3, g3⟩ => ⟨?_, ?_⟩
  · rw [jL_at (s3 _ _ e2)]
    unfold iL iN
    rw [List.map_map, List.getElem?_map, List.getElem?_eq_getElem hk]; rfl
  · subst he
    have hm := List.getElem_mem hk
    have hp := fac_pos _ hm
    have hpn := (fg_pos (2 * n + 2) n 2 (by omega) (by decide) _ hm).2
    have kl := F.few k
    rw [q_gnm]
    refine WP_ok.mpr ?_
    simp only [List.set_cons_succ, List.set_cons_zero]
    rw [q_asg, WP_bind]
    have w : WP ((dBin oAdd (dVar 2) (dLc (iSeq (dVar 2)) (gNm 5) tYes1 (dBin oMulA (dVar 5) (dVar 3)) [5])) [some (.int (n : Int)), some (.ref rf), some (.ref r), some (.int (((fac n)[k] : Nat) : Int)), none, none] S3) fun u S4 => Sub S3 S4 ∧ ∃ r, u = .ref r ∧ S4[r]? = some (.lst (iL (due ((fac n).take k) ++ (due ((fac n).take k)).map fun x => x * (((fac n)[k] : Nat) : Int)))) := by
      refine st_bin (st_var rfl ?_)
      refine wp_ints (due ((fac n).take k)) (iL (due ((fac n).take k))) (fun _ => true) (fun x => x * (((fac n)[k] : Nat) : Int)) (by omega) (iL_len _) ?_ (fun j a da S4 hj hd4 s4 => ?_) fun S4 s4 => ?_
      · rw [q_seqi, q_var]
        simp only [List.getElem?_cons_zero, List.getElem?_cons_succ, Res.bind_ok, seqR g3]
        exact WP_ok.mpr ⟨Sub.refl _, fun k S2 _ s => jL_at (s _ _ g3)⟩
      · have ed : da = .int a := by
          unfold iL at hd4
          rw [List.getElem?_map, hj] at hd4
          exact (Option.some.inj hd4).symm
        subst ed
        obtain ⟨m, e, d, _⟩ := due_of (k := k) h1 a (List.mem_of_getElem? hj)
        have := Nat.le_of_dvd (by omega) d
        have hm : mulOk a (((fac n)[k] : Nat) : Int) = true := mulW (a := 40) (b := 40) (by omega) (by omega) (by decide)
        rw [q_gnm]
        refine WP_ok.mpr (WP_ok.mpr ⟨rfl, Sub.refl _, fun _ => ?_⟩)
        simp only [wipe_cons, wipe_nil, List.set_cons_succ, List.set_cons_zero]
        exact st_bin (st_var rfl (st_var rfl ⟨_, _, o_mul hm, rfl, Sub.refl _⟩))
      · rw [filter_tt]
        have p5 := Sub.push S4 (O.lst (iL ((due ((fac n).take k)).map fun x => x * (((fac n)[k] : Nat) : Int))))
        refine ⟨_, _, add_lst ((s4.trans p5) _ _ g3) push_at (by rw [List.length_map]; omega), (s4.trans p5).trans (Sub.push _ _), _, rfl, push_at⟩
    obtain ⟨u, S4, eu, s4, r4, rfl, g4⟩ := w
    rw [e_sortW eu (.lst g4) (by rw [List.length_append, List.length_map]; omega)]
    refine WP_ok.mpr ?_
    simp only [q_gnm, Res.bind_ok, WP_ok, List.set_cons_succ, List.set_cons_zero]
    refine ⟨S4.length, _, rfl, s3.trans (s4.trans (Sub.push _ _)), ?_⟩
    rw [List.take_succ_eq_append_getElem hk, due_snoc]
    exact push_at
  · rw [jL_at (s3 _ _ e2), List.getElem?_eq_none (by rw [iL_len, iN_len]; exact Nat.le_refl _)]
  · subst he
    rw [List.take_length] at g3
    have e3 := s3 _ _ e2
    dsimp only
    have el : ∀ (env : En) (S' : Store), env[1]? = some (some (.ref rf)) → S'[rf]? = some (.lst (iL (iN (fac n)))) → dCallB (b1 fLen) (dCons (dVar 1) dNil) env S' = .ok (.int ((fac n).length : Nat)) S' := fun env S' h h' => by
      simp only [q_callB, q_cons, q_nil, q_var, h, Res.bind_ok, q_b1, f_lenR h', q_ofO, iL_len, iN_len]
    refine st_asg ?_
    have ws : WP ((dIf (dTstB (dBin oLtI (dLenW (dVar 1)) (dCallB (b1 fLen) (dCons (dVar 1) dNil)))) (dC (.int 0)) (dBin oSubI (dC (.int 1)) (dBin oMulA (dC (.int 2)) (dBin oModI (dCallB (b1 fLen) (dCons (dVar 1) dNil)) (dC (.int 2)))))) [some (.int (n : Int)), some (.ref rf), some (.ref r), x3, none, none] S3) fun u S4 => u = .int (mob n) ∧ S4 = S3 := by
      rw [q_if, WP_bind]
      refine st_cmp (st_ok (e_lenW (l := iN (fac n)) (x := .ref rf) rfl (.lst e3) (by rw [iN_len]; omega)) (st_ok (el _ _ rfl e3) ⟨_, S3, o_lt, ?_⟩))
      by_cases h : nf n < (fac n).length
      · have e : mob n = 0 := by unfold mob; rw [if_pos h]
        unfold nf at h
        rw [decide_eq_true (by omega), if_pos rfl]
        exact st_c ⟨by rw [e], rfl⟩
      · have e : mob n = 1 - 2 * (((fac n).length % 2 : Nat) : Int) := by unfold mob; rw [if_neg h]
        unfold nf at h
        rw [decide_eq_false (by omega), if_neg (by decide)]
        have hm : mulOk 2 (((fac n).length % 2 : Nat) : Int) = true := mulW (a := 2) (b := 2) (by decide) (by omega) (by decide)
        exact st_bin (st_c (st_bin (st_c (st_bin (st_ok (el _ _ rfl e3) (st_c ⟨_, _, m_nat (b := 2) (by decide), _, _, o_mul hm, _, _, o_sub, by rw [e], rfl⟩)))))) 
    refine WP_mono ws fun u S4 ⟨eu, eS⟩ => ?_
    subst eu eS
    simp only [List.set_cons_succ, List.set_cons_zero]
    have s4 := s2.trans s3
    refine st_ret (st_and ?_)
    refine st_bin ?_
    rw [q_callB, WP_bind]
    refine st_args ?_
    refine st_call (xs := [.int (n : Int)]) rfl (w_divisors F fun S5 s5 => st_nil ?_)
    rw [q_b1, f_list, itemsT, Option.map_some, q_ofO]
    refine WP_ok.mpr (st_var rfl ?_)
    have p6 := Sub.push S5 (O.lst (iL (due (fac n))))
    refine ⟨_, _, eq_lst push_at ((s5.trans p6) _ _ g3), by rw [decide_eq_true rfl], ?_⟩
    have s6 := s4.trans (s5.trans p6)
    have e6 := (s5.trans p6) _ _ e3
    generalize S5 ++ [O.lst (iL (due (fac n)))] = S6 at *
    refine st_and ?_
    refine st_bin ?_
    refine st_call (xs := [.int (n : Int)]) rfl (w_moebius h1 hn fun S7 s7 => ?_)
    refine st_var rfl ⟨_, _, o_eqI, by rw [decide_eq_true rfl], ?_⟩
    refine st_bin ?_
    refine st_call (xs := [.int (n : Int)]) rfl (w_isprime h1 hn fun S8 s8 => ?_)
    refine st_bin (st_ok (el _ _ rfl ((s7.trans s8) _ _ e6)) (st_c ⟨_, _, o_eqI, ?_⟩))
    have e : decide ((((fac n).length : Nat) : Int) = 1) = decide ((fac n).length = 1) := decide_eq_decide.mpr (by omega)
    rw [e]
    exact ⟨_, _, eq_bl, WP_ok.mpr (hQ S8 (s6.trans (s7.trans s8)))⟩
theorem w_integer (hL : Lot S i m) (hm : m + 100 ≤ 2 ^ 40) (hQ : ∀ n S', Few n → Lot S' i (m + 3) → Kp i S S' → S.length ≤ S'.length → Q (.int (n : Int)) S') : WP (f__law_integer [.ref i] S) Q := by
  have hi := hL.lt
  unfold f__law_integer
  rw [mkFn_wp]
  unfold b__law_integer n__law_integer
  simp only [List.map_cons, List.map_nil, List.length_cons, List.length_nil, List.cons_append, List.nil_append, List.replicate]
  refine st_asg ?_
  refine st_call (xs := [.ref i, .int 4]) rfl ?_
  refine w_pull hL (by decide) (by decide) (by omega) fun a S1 a0 a4 L1 k1 n1 => ?_
  simp only [List.set_cons_succ, List.set_cons_zero]
  rw [q_seq, WP_bind, q_sif, WP_bind]
  refine st_cmp (st_var rfl (st_c ⟨_, S1, o_eqI, ?_⟩))
  by_cases h0 : a = 0
  · rw [decide_eq_true h0, if_pos rfl]
    refine st_ret (st_bin (st_c ?_))
    refine st_call (xs := [.ref i, .int 70]) rfl ?_
    refine w_pull L1 (by decide) (by decide) (by omega) fun b S2 b0 b4 L2 k2 n2 => ?_
    obtain ⟨b, rfl⟩ := Int.eq_ofNat_of_zero_le b0
    refine ⟨_, _, o_add, WP_ok.mpr (WP_ok.mpr ?_)⟩
    rw [show (1 : Int) + (b : Int) = ((b + 1 : Nat) : Int) by omega]
    exact hQ (b + 1) S2 (few_small (by omega) (by omega)) (L2.mono (by omega)) (k1.trans k2) (by omega)
  · rw [decide_eq_false h0, if_neg (by decide)]
    refine WP_ok.mpr ?_
    dsimp only
    rw [q_seq, WP_bind, q_sif, WP_bind]
    refine st_cmp (st_var rfl (st_c ⟨_, S1, o_eqI, ?_⟩))
    by_cases h1 : a = 1
    · rw [decide_eq_true h1, if_pos rfl]
      refine st_ret ?_
      have hp : powOk 10 9 = true := by decide
      refine st_callA (st_args (st_var rfl (st_args ?_)))
      refine st_ok (v := .ref S1.length) (S := S1 ++ [.lst (iL [2, 89, 420, 2048, 10009, 30030, 720720, 999979, 1000000000, 999999937])]) rfl (st_nil ?_)
      have p2 := Sub.push S1 (O.lst (iL [2, 89, 420, 2048, 10009, 30030, 720720, 999979, 1000000000, 999999937]))
      refine w_one_of (L1.sub p2) push_at (by decide) (by decide) (by omega) (by omega) fun j x S3 hx L3 k3 n3 => ?_
      have n2 := sub_len p2
      obtain ⟨b, F, rfl⟩ : ∃ b : Nat, Few b ∧ x = .int (b : Int) := by
        have : x ∈ iL [2, 89, 420, 2048, 10009, 30030, 720720, 999979, 1000000000, 999999937] := List.mem_of_getElem? hx
        simp only [iL, List.map_cons, List.map_nil, List.mem_cons, List.not_mem_nil, or_false] at this
        rcases this with rfl | rfl | rfl | rfl | rfl | rfl | rfl | rfl | rfl | rfl
        · exact ⟨2, few_small (by decide) (by decide), rfl⟩
        · exact ⟨89, few_small (by decide) (by decide), rfl⟩
        · exact ⟨420, few_small (by decide) (by decide), rfl⟩
        · exact ⟨2048, few_small (by decide) (by decide), rfl⟩
        · exact ⟨10009, few_small (by decide) (by decide), rfl⟩
        · exact ⟨30030, few_small (by decide) (by decide), rfl⟩
        · exact ⟨720720, few_small (by decide) (by decide), rfl⟩
        · exact ⟨999979, few_small (by decide) (by decide), rfl⟩
        · exact ⟨1000000000, few_ten, rfl⟩
        · exact ⟨999999937, few_big, rfl⟩
      exact WP_ok.mpr (WP_ok.mpr (hQ b S3 F (L3.mono (by omega)) (k1.trans (p2.kp.trans k3)) (by omega)))
    · rw [decide_eq_false h1, if_neg (by decide)]
      refine WP_ok.mpr ?_
      dsimp only
      refine st_ret (st_bin (st_bin (st_c ?_)))
      refine st_call (xs := [.ref i, .int 999]) rfl ?_
      refine w_pull L1 (by decide) (by decide) (by omega) fun b S2 b0 b4 L2 k2 n2 => ?_
      obtain ⟨b, rfl⟩ := Int.eq_ofNat_of_zero_le b0
      refine ⟨_, _, o_add, st_bin (st_c ?_)⟩
      refine st_call (xs := [.ref i, .int 999]) rfl ?_
      refine w_pull L2 (by decide) (by decide) (by omega) fun c S3 c0 c4 L3 k3 n3 => ?_
      obtain ⟨c, rfl⟩ := Int.eq_ofNat_of_zero_le c0
      refine ⟨_, _, o_add, ?_⟩
      rw [show (1 : Int) + (b : Int) = ((b + 1 : Nat) : Int) by omega, show (1 : Int) + (c : Int) = ((c + 1 : Nat) : Int) by omega]
      refine ⟨_, _, mul_nat (by omega) (by omega), WP_ok.mpr ?_⟩
      have hb : (b + 1) * (c + 1) ≤ 999 * 999 := Nat.mul_le_mul (by omega) (by omega)
      have hb1 : 1 ≤ (b + 1) * (c + 1) := Nat.mul_le_mul (show 1 ≤ b + 1 by omega) (show 1 ≤ c + 1 by omega)
      exact hQ _ S3 (few_small hb1 (by omega)) (L3.mono (by omega)) (k1.trans (k2.trans k3)) (by omega)
end
end Zk01

namespace Zk01
open PySem PySem.Spec Z
section
variable {S S' S0 : Store} {x y d : D} {ds es acc : List D} {l K ms : List Int} {Q : D → Store → Prop} {QF : Fl → Store → Prop} {n k q r p i m : Nat} {env : En} {v : Int} {sz : List Nat}
def tN (rows : List (List Nat)) : List D := rows.map fun l => D.tup (nI l)
theorem nI_len : (nI sz).length = sz.length := List.length_map _
theorem nI_at (h : k < sz.length) : (nI sz)[k]? = some (.int ((sz[k] : Nat) : Int)) := by unfold nI; rw [List.getElem?_map, List.getElem?_eq_getElem h]; rfl
theorem tN_tR {rows : List (List Nat)} : D.tup (tN rows) = tR (rows.map iN) := by
  unfold tN tR nI iN iL
  rw [List.map_map]
  congr 1
  refine List.map_congr_left fun l _ => ?_
  simp only [Function.comp_apply, List.map_map]
  rfl
theorem eq_tN {rows : List (List Nat)} : oEq (.tup (tN rows)) (.tup (tN rows)) S = some (.bl true, S) := by
  rw [tN_tR]
  exact o_eqS (py_tup2 _) (py_tup2 _)
theorem imul_ok {a b : Int} (h : a.natAbs ≤ 10000) : oIMul (.int a) (.int b) S = some (.int (a * b), S) := by
  have c : mul64 a b = true := by
    unfold mul64
    rw [Bool.or_eq_true]
    left
    rw [Bool.and_eq_true, decide_eq_true_eq, decide_eq_true_eq]
    omega
  unfold oIMul oInt
  dsimp only
  rw [c]
  rfl
def mb : List Nat → Nat
  | [] => 1
  | k :: l => (k + 1) * mb l
theorem mb_snoc {a : Nat} : ∀ {l : List Nat}, mb (l ++ [a]) = mb l * (a + 1)
  | [] => by show (a + 1) * 1 = 1 * (a + 1); omega
  | x :: l => by show (x + 1) * mb (l ++ [a]) = (x + 1) * mb l * (a + 1); rw [mb_snoc, Nat.mul_assoc]
theorem mb_le : ∀ {l : List Nat}, (∀ k ∈ l, k ≤ 6) → mb l ≤ 7 ^ l.length
  | [], _ => Nat.le_refl _
  | x :: l, h => by
    rw [List.length_cons, Nat.pow_succ, Nat.mul_comm (7 ^ l.length)]
    exact Nat.mul_le_mul (by have := h x List.mem_cons_self; omega) (mb_le fun k hk => h k (List.mem_cons_of_mem _ hk))
theorem rows_mb : ∀ l : List Nat, (rowsR l).length = mb l := snoc_ind rfl fun l p ih => by rw [rowsR_snoc, stepR_len, ih, mb_snoc]
theorem mb_bd (h6 : ∀ k ∈ sz, k ≤ 6) (hl : sz.length ≤ 4) : mb (sz.take k) ≤ 2401 := by
  have := mb_le (l := sz.take k) fun k hk => h6 k (List.mem_of_mem_take hk)
  have h2 : (sz.take k).length ≤ 4 := by rw [List.length_take]; omega
  have h3 : 7 ^ (sz.take k).length ≤ 7 ^ 4 := Nat.pow_le_pow_right (by decide) h2
  omega
theorem w_isrow (h6 : ∀ k ∈ sz, k ≤ 6) (h1 : 1 ≤ sz.length) (hl : sz.length ≤ 4) (hQ : ∀ S', Sub S S' → Q (.bl true) S') : WP (f_is_row [.tup (nI sz)] S) Q := by
  unfold f_is_row
  rw [mkFn_wp]
  unfold b_is_row n_is_row
  simp only [List.map_cons, List.map_nil, List.length_cons, List.length_nil, List.cons_append, List.nil_append, List.replicate]
  refine st_if (st_or (st_not (st_tst (st_ok (v := .bl true) (S := S) rfl ⟨true, rfl, rfl, ?_⟩))))
  refine st_not ?_
  rw [q_tstB, WP_bind, q_chain]
  simp only [q_c, q_callB, q_cons, q_nil, q_var, List.getElem?_cons_zero, Res.bind_ok, q_b1, f_lenT, q_ofO, o_le, nI_len]
  rw [decide_eq_true (by omega)]
  simp only [q_c, Res.bind_ok, o_le, q_ofO]
  rw [decide_eq_true (by omega)]
  refine WP_ok.mpr (WP_ok.mpr ⟨rfl, ?_⟩)
  refine st_ret ?_
  rw [q_callB, WP_bind]
  refine st_args ?_
  refine wp_rel (fun _ d (_ : Nat) => d = .bl true) (fun _ _ _ _ h _ => h) sz (nI sz) (fun _ => true) (fun k => k) (by omega) nI_len ?_ (fun j a da S3 hj hd3 s3 => ?_) fun S3 ys s3 hys => ?_
  · rw [q_seqi, q_var]
    exact WP_ok.mpr ⟨Sub.refl _, fun k S2 _ _ => rfl⟩
  · have ed : da = .int (a : Int) := by
      unfold nI at hd3
      rw [List.getElem?_map, hj] at hd3
      exact (Option.some.inj hd3).symm
    subst ed
    have ha := h6 a (List.mem_of_getElem? hj)
    rw [q_gnm]
    refine WP_ok.mpr (WP_ok.mpr ⟨rfl, Sub.refl _, fun _ => ?_⟩)
    simp only [wipe_cons, wipe_nil, List.set_cons_succ, List.set_cons_zero]
    refine st_and ?_
    refine st_call (xs := [.int (a : Int)]) rfl ?_
    rw [e_whole]
    refine WP_ok.mpr ⟨rfl, ?_⟩
    rw [q_chain]
    simp only [q_c, q_var, List.getElem?_cons_zero, List.getElem?_cons_succ, Res.bind_ok, q_ofO, o_le]
    rw [decide_eq_true (by omega)]
    simp only [q_c, Res.bind_ok, o_le, q_ofO]
    rw [decide_eq_true (by omega)]
    exact WP_ok.mpr ⟨rfl, Sub.refl _⟩
  · rw [filter_tt] at hys
    have g : (S3 ++ [O.lst ys])[S3.length]? = some (.lst ys) := push_at
    have hall : ∀ d ∈ ys, d = .bl true := fun d hd => by
      obtain ⟨k, hk, e⟩ := List.getElem_of_mem hd
      have hk2 : k < (sz.map fun k => k).length := by rw [← hys.1]; exact hk
      obtain ⟨d', e', r⟩ := hys.get hk2
      rw [List.getElem?_eq_getElem hk, e] at e'
      cases e'
      exact r
    refine st_nil ?_
    rw [q_b1, all_true g hall, q_ofO]
    exact WP_ok.mpr (WP_ok.mpr (hQ _ (s3.trans (Sub.push _ _))))
theorem mb_step {op : Op2} {M M2 z : Nat} {y : D} {P : Fl → Store → Prop} (em : op (.int (M : Int)) (.int ((z : Int) + 1)) S = some (.int (M2 : Int), S)) (h : P (.nx [some y, some (.int (M2 : Int)), some (.int (z : Int))]) S) :
    WP (sAug 1 op (dBin oAdd (dVar 2) (dC (.int 1))) [some y, some (.int (M : Int)), some (.int (z : Int))] S) P := by
  rw [q_aug]
  simp only [List.getElem?_cons_zero, List.getElem?_cons_succ, q_bin, q_c, q_var, Res.bind_ok, o_add, q_ofO, em, WP_ok, List.set_cons_succ, List.set_cons_zero]
  exact h
theorem w_many (h6 : ∀ k ∈ sz, k ≤ 6) (hl : sz.length ≤ 4) (hQ : Q (.int (mb sz : Nat)) S) : WP (f_many_below [.tup (nI sz)] S) Q := by
  unfold f_many_below
  rw [mkFn_wp]
  unfold b_many_below n_many_below
  simp only [List.map_cons, List.map_nil, List.length_cons, List.length_nil, List.cons_append, List.nil_append, List.replicate]
  refine st_asg (st_c ?_)
  simp only [List.set_cons_succ, List.set_cons_zero]
  rw [q_seq, WP_bind, q_for, WP_bind, q_seqi, q_var]
  show WP (Res.ok (jT (nI sz)) S) _
  refine WP_ok.mpr ?_
  refine wp_for sz.length (fun k env S' => ∃ x2, env = [some (.tup (nI sz)), some (.int (mb (sz.take k) : Nat)), x2] ∧ S' = S) (by omega) ⟨none, rfl, rfl⟩
    (fun k env S1 hk ⟨x2, he, hs⟩ => ⟨.int ((sz[k] : Nat) : Int), by show some (nI sz)[k]? = _; rw [nI_at hk], ?_⟩) fun env S1 ⟨x2, he, hs⟩ => ⟨by show some (nI sz)[_]? = _; rw [List.getElem?_eq_none (by rw [nI_len]; exact Nat.le_refl _)], ?_⟩
  · subst he hs
    have hb := mb_bd (k := k) h6 hl
    have h6k := h6 _ (List.getElem_mem hk)
    have em : oIMul (.int (mb (sz.take k) : Nat)) (.int ((sz[k] : Nat) + 1 : Int)) S1 = some (.int (mb (sz.take (k + 1)) : Nat), S1) := by
      rw [List.take_succ_eq_append_getElem hk, mb_snoc, Int.natCast_mul, show (((sz[k] + 1 : Nat)) : Int) = (sz[k] : Int) + 1 by omega]
      exact imul_ok (by rw [Int.natAbs_natCast]; omega)
    generalize hM : mb (sz.take k) = M at em ⊢
    generalize hM2 : mb (sz.take (k + 1)) = M2 at em ⊢
    generalize hz : sz[k] = z at em ⊢
    rw [q_gnm]
    refine WP_ok.mpr ?_
    simp only [List.set_cons_succ, List.set_cons_zero]
    exact mb_step em ⟨_, rfl, rfl⟩
  · subst he hs
    rw [List.take_length]
    exact st_ret (st_var rfl (WP_ok.mpr hQ))
theorem w_rowsbelow (h6 : ∀ k ∈ sz, k ≤ 6) (h1 : 1 ≤ sz.length) (hl : sz.length ≤ 4) (hQ : ∀ S', Sub S S' → Q (.tup (tN (rowsR sz))) S') : WP (f_rows_below [.tup (nI sz)] S) Q := by
  have hb := mb_bd (k := sz.length) h6 hl
  rw [List.take_length] at hb
  unfold f_rows_below
  rw [mkFn_wp]
  unfold b_rows_below n_rows_below
  simp only [List.map_cons, List.map_nil, List.length_cons, List.length_nil, List.cons_append, List.nil_append, List.replicate]
  refine st_if (st_not (st_tst ?_))
  refine st_call (xs := [.tup (nI sz)]) rfl (w_isrow h6 h1 hl fun S1 s1 => ⟨true, rfl, rfl, ?_⟩)
  refine st_if (st_cmp ?_)
  refine st_call (xs := [.tup (nI sz)]) rfl (w_many h6 hl ?_)
  refine st_c ⟨_, S1, o_gt, decide_eq_false (by omega), ?_⟩
  refine st_ret ?_
  rw [q_callB, WP_bind]
  refine st_args ?_
  refine st_call (xs := [.tup (nI sz)]) rfl (w_rows_in (by rw [rows_mb]; omega) (fun k hk => by have := h6 k hk; omega) (by omega) fun r S2 s2 e2 => st_nil ?_)
  rw [q_b1, f_tuple, itemsR e2]
  exact WP_ok.mpr (WP_ok.mpr (hQ S2 (s1.trans s2)))
theorem w_lbelow (h6 : ∀ k ∈ sz, k ≤ 6) (hl : sz.length ≤ 4) (hQ : ∀ r S', Sub S S' → S'[r]? = some (.lst (tN (rowsR sz))) → Q (.ref r) S') : WP (f__law_below [.tup (nI sz)] S) Q := by
  unfold f__law_below
  rw [mkFn_wp]
  unfold b__law_below n__law_below
  simp only [List.map_cons, List.map_nil, List.length_cons, List.length_nil, List.cons_append, List.nil_append, List.replicate]
  refine st_asg ?_
  refine st_ok (v := .ref S.length) (S := S ++ [.lst (tN (rowsR []))]) rfl ?_
  have p1 := Sub.push S (O.lst (tN (rowsR [])))
  have g1 : (S ++ [O.lst (tN (rowsR []))])[S.length]? = some (.lst (tN (rowsR []))) := push_at
  generalize S.length = r1 at g1 ⊢
  generalize S ++ [O.lst (tN (rowsR []))] = S1 at *
  simp only [List.set_cons_succ, List.set_cons_zero]
  rw [q_seq, WP_bind, q_for, WP_bind, q_seqi, q_var]
  show WP (Res.ok (jT (nI sz)) S1) _
  refine WP_ok.mpr ?_
  refine wp_for sz.length (fun k env S' => ∃ r x2 x3 x4, env = [some (.tup (nI sz)), some (.ref r), x2, x3, x4, none] ∧ Sub S S' ∧ S'[r]? = some (.lst (tN (rowsR (sz.take k))))) (by omega) ⟨r1, none, none, none, rfl, p1, g1⟩
    (fun k env S2 hk ⟨r, x2, x3, x4, he, s2, g2⟩ => ⟨.int ((sz[k] : Nat) : Int), by show some (nI sz)[k]? = _; rw [nI_at hk], ?_⟩) fun env S2 ⟨r, x2, x3, x4, he, s2, g2⟩ => ⟨by show some (nI sz)[_]? = _; rw [List.getElem?_eq_none (by rw [nI_len]; exact Nat.le_refl _)], ?_⟩
  · subst he
    have h6k := h6 _ (List.getElem_mem hk)
    have hb := mb_bd (k := k) h6 hl
    have hR : (rowsR (sz.take k)).length ≤ 2401 := by rw [rows_mb]; exact hb
    have hrow : ∀ l ∈ rowsR (sz.take k), l.length ≤ 4 := fun l hl' => by
      have := rowsR_row (sz.take k) [[]] 0 (fun r hr => by rw [List.mem_singleton.mp hr]; exact Nat.le_refl _) l hl'
      rw [List.length_take] at this
      omega
    generalize hrk : rowsR (sz.take k) = R at g2 hR hrow
    simp only [q_gnm, WP_ok, List.set_cons_succ, List.set_cons_zero]
    refine st_asg (st_ok d_nil ?_)
    have p3 := Sub.push S2 (O.lst [])
    have g3 : (S2 ++ [O.lst []])[S2.length]? = some (.lst (tN [])) := push_at
    have lt2 := lt_of_at g2
    generalize hro : S2.length = ro at g3 lt2 ⊢
    have hro' : S2.length ≤ ro := by omega
    generalize S2 ++ [O.lst []] = S3 at *
    simp only [List.set_cons_succ, List.set_cons_zero]
    rw [q_seq, WP_bind, q_for, WP_bind, q_seqi]
    have e4 : dCallB (b1 fList) (dCons (dVar 1) dNil) [some (.tup (nI sz)), some (.ref r), some (.int ((sz[k] : Nat) : Int)), some (.ref ro), x4, none] S3 = .ok (.ref S3.length) (S3 ++ [.lst (tN R)]) := by
      simp only [q_callB, q_cons, q_nil, q_var, List.getElem?_cons_zero, List.getElem?_cons_succ, Res.bind_ok, q_b1, f_list, itemsR (p3 _ _ g2), Option.map_some, q_ofO]
    rw [e4]
    have p5 := Sub.push S3 (O.lst (tN R))
    have g5 : (S3 ++ [O.lst (tN R)])[S3.length]? = some (.lst (tN R)) := push_at
    have lt3 := lt_of_at g3
    generalize hrc : S3.length = rc at g5 lt3 ⊢
    generalize S3 ++ [O.lst (tN R)] = S5 at *
    rw [Res.bind_ok, seqR g5]
    refine WP_ok.mpr ?_
    have s25 := p3.trans p5
    refine wp_for R.length (fun j env S' => ∃ x4, env = [some (.tup (nI sz)), some (.ref r), some (.int ((sz[k] : Nat) : Int)), some (.ref ro), x4, none] ∧ Kp ro S5 S' ∧ S'[ro]? = some (.lst (tN (stepR (R.take j) sz[k])))) (by omega) ⟨x4, rfl, Kp.refl _ _, p5 _ _ g3⟩
      (fun j env S6 hj ⟨x4, he, k6, g6⟩ => ⟨.tup (nI R[j]), ?_, ?_⟩) fun env S6 ⟨x4, he, k6, g6⟩ => ⟨?_, ?_⟩
    · rw [jL_at (k6 _ _ (by omega) g5)]
      unfold tN
      rw [List.getElem?_map, List.getElem?_eq_getElem hj]; rfl
    · subst he
      have hj4 := hrow _ (List.getElem_mem hj)
      rw [q_gnm]
      refine WP_ok.mpr ?_
      simp only [List.set_cons_succ, List.set_cons_zero]
      rw [q_expr, WP_bind, q_meth, WP_bind]
      refine st_var rfl ?_
      rw [if_pos (isL_r g6), WP_bind]
      refine st_args ?_
      refine wp_relN (fun _ d (l : List Nat) => d = .tup (nI l)) (fun _ _ _ _ h _ => h) (sz[k] + 1) (by simp only [q_cons, q_nil, q_bin, q_c, q_var, List.getElem?_cons_zero, List.getElem?_cons_succ, Res.bind_ok, o_add, q_ofO, Int.natCast_add]; rfl) (fun _ => true) (fun m => R[j] ++ [m]) (by omega) (fun m S7 hm s7 => ?_) fun S7 ys s7 hys => ?_
      · rw [q_gnm]
        refine WP_ok.mpr (WP_ok.mpr ⟨rfl, Sub.refl _, fun _ => ?_⟩)
        simp only [List.map_cons, List.map_nil, wipe_cons, wipe_nil, List.set_cons_succ, List.set_cons_zero]
        refine st_bin (st_var rfl (st_ok (v := .tup [.int (m : Int)]) (S := S7) rfl ⟨_, S7, o_addTT (by rw [nI_len]; simp only [List.length_cons, List.length_nil]; omega), ?_, Sub.refl _⟩))
        unfold nI
        rw [List.map_append]; rfl
      · rw [filter_tt] at hys
        have ey : ys = tN ((List.range (sz[k] + 1)).map fun m => R[j] ++ [m]) := by
          refine List.ext_getElem (by rw [hys.1]; unfold tN; simp) fun u h1 h2 => ?_
          have hu : u < ((List.range (sz[k] + 1)).map fun m => R[j] ++ [m]).length := by rw [← hys.1]; exact h1
          have e : (tN ((List.range (sz[k] + 1)).map fun m => R[j] ++ [m]))[u] = D.tup (nI (((List.range (sz[k] + 1)).map fun m => R[j] ++ [m])[u]'hu)) := List.getElem_map _
          rw [e]
          exact hys.2 u _ _ (List.getElem?_eq_getElem h1) (List.getElem?_eq_getElem hu)
        subst ey
        have p8 := Sub.push S7 (O.lst (tN ((List.range (sz[k] + 1)).map fun m => R[j] ++ [m])))
        refine st_nil ?_
        have g8 := (s7.trans p8) _ _ g6
        have lA : (tN (stepR (R.take j) sz[k])).length ≤ 20000 := by
          unfold tN
          rw [List.length_map, stepR_len, List.length_take]
          have := Nat.mul_le_mul (show min j R.length ≤ 2401 by omega) (show sz[k] + 1 ≤ 7 by omega)
          omega
        have lB : (tN ((List.range (sz[k] + 1)).map fun m => R[j] ++ [m])).length ≤ 7 := by unfold tN; simp; omega
        rw [m_extend g8 push_at (by omega)]
        refine WP_ok.mpr (WP_ok.mpr ⟨_, rfl, (k6.trans (s7.trans p8).kp).trans Kp.set, ?_⟩)
        rw [set_at g8, List.take_succ_eq_append_getElem hj]
        unfold stepR tN
        rw [List.flatMap_append, List.map_append]
        simp
    · rw [jL_at (k6 _ _ (by omega) g5), List.getElem?_eq_none (by unfold tN; rw [List.length_map]; exact Nat.le_refl _)]
    · subst he
      dsimp only
      rw [q_asg, WP_bind]
      refine st_var rfl ?_
      simp only [q_gnm, Res.bind_ok, WP_ok, List.set_cons_succ, List.set_cons_zero]
      refine ⟨ro, _, _, _, rfl, s2.trans (sub_trans' s25 k6 hro'), ?_⟩
      rw [List.take_length] at g6
      rw [List.take_succ_eq_append_getElem hk, rowsR_snoc, hrk]
      exact g6
  · subst he
    rw [List.take_length] at g2
    exact st_ret (st_var rfl (WP_ok.mpr (hQ r S2 s2 g2)))
theorem w_rowsright (hL : Lot S i m) (hm : m + 1000 ≤ 2 ^ 40) (hQ : ∀ S', Lot S' i (m + 20) → Kp i S S' → S.length ≤ S'.length → Q (.bl true) S') : WP (f__law_rows_right [.ref i] S) Q := by
  have hi := hL.lt
  unfold f__law_rows_right
  rw [mkFn_wp]
  unfold b__law_rows_right n__law_rows_right
  simp only [List.map_cons, List.map_nil, List.length_cons, List.length_nil, List.cons_append, List.nil_append, List.replicate]
  refine st_asg ?_
  rw [q_callB, WP_bind]
  refine st_one ?_
  refine wp_lc ?_
  have wr : WP (iRng1 (dCons (dBin oAdd (dC (.int 1)) (dCall f__law_pull (dCons (dVar 0) (dCons (dC (.int 4)) dNil)))) dNil) [some (.ref i), none, none] S) fun J S1 => ∃ n : Nat, 1 ≤ n ∧ n ≤ 4 ∧ J = jR 0 n ∧ Lot S1 i (m + 1) ∧ Kp i S S1 ∧ S.length = S1.length := by
    have w : WP (f__law_pull [.ref i, .int 4] S) fun u S1 => ∃ b : Nat, u = .int (b : Int) ∧ b < 4 ∧ Lot S1 i (m + 1) ∧ Kp i S S1 ∧ S.length = S1.length :=
      w_pull hL (by decide) (by decide) (by omega) fun b S1 b0 b4 L1 k1 n1 => by
        obtain ⟨b, rfl⟩ := Int.eq_ofNat_of_zero_le b0
        exact ⟨b, rfl, by omega, L1, k1, n1⟩
    obtain ⟨u, S1, eu, b, rfl, hb, L1, k1, n1⟩ := w
    refine ⟨jR 0 (b + 1), S1, ?_, b + 1, by omega, by omega, rfl, L1, k1, n1⟩
    have ea : (dCons (dBin oAdd (dC (.int 1)) (dCall f__law_pull (dCons (dVar 0) (dCons (dC (.int 4)) dNil)))) dNil) [some (.ref i), none, none] S = .ok [.int ((b + 1 : Nat) : Int)] S1 := by
      have e0 : dCall f__law_pull (dCons (dVar 0) (dCons (dC (.int 4)) dNil)) [some (.ref i), none, none] S = .ok (.int (b : Int)) S1 := by
        simp only [q_call, q_cons, q_nil, q_c, q_var, List.getElem?_cons_zero, Res.bind_ok, eu]
      simp only [q_cons, q_nil, q_bin, q_c, Res.bind_ok, e0, o_add, q_ofO]
      rw [show (1 : Int) + (b : Int) = ((b + 1 : Nat) : Int) by omega]
    unfold iRng1
    rw [ea, Res.bind_ok]
    dsimp only
    rw [if_pos (by omega), Int.toNat_natCast]
  refine WP_mono wr fun J S1 ⟨n, h1, h4, eJ, L1, k1, n1⟩ => ?_
  subst eJ
  refine ⟨n, fun k acc S' => ∃ sz : List Nat, acc = nI sz ∧ sz.length = k ∧ (∀ j ∈ sz, j ≤ 6) ∧ Lot S' i (m + 1 + 2 * k) ∧ Kp i S S' ∧ S.length ≤ S'.length, by omega, ⟨[], rfl, rfl, fun _ h => (nomatch h), by simpa using L1, k1, by omega⟩, fun k acc S2 hk ⟨sz, e1, e2, e3, e4, e5, e6⟩ => ⟨?_, _, jR_at hk, ?_⟩, fun acc S2 ⟨sz, e1, e2, e3, e4, e5, e6⟩ => ⟨jR_end, ?_⟩⟩
  · rw [e1, nI_len, e2]; exact sl_big (by omega)
  · rw [q_gnm]
    refine WP_ok.mpr (WP_ok.mpr ?_)
    rw [if_pos rfl]
    simp only [wipe_cons, wipe_nil, List.set_cons_succ, List.set_cons_zero]
    refine st_callA (st_args (st_var rfl (st_args ?_)))
    refine st_callA (st_args (st_var rfl (st_args ?_)))
    refine st_lst1 (st_args (st_c (st_args (st_c (st_args (st_c (st_args (st_c (st_nil ⟨by simp, st_nil ?_⟩)))))))))
    have p3 := Sub.push S2 (O.lst [.int 2, .int 3, .int 5, .int 7])
    have g3 : (S2 ++ [O.lst [D.int 2, .int 3, .int 5, .int 7]])[S2.length]? = some (.lst [.int 2, .int 3, .int 5, .int 7]) := push_at
    have n3 := sub_len p3
    have Lc := e4.sub p3
    have hne : S2.length ≠ i := by have := e4.lt; omega
    generalize hr3 : S2.length = r3 at g3 hne ⊢
    generalize S2 ++ [O.lst [D.int 2, .int 3, .int 5, .int 7]] = S3 at *
    refine w_one_of Lc g3 (by decide) (by decide) hne (by omega) fun j x S4 hx Ld k4 n4 => ?_
    obtain ⟨u, u1, u7, rfl⟩ : ∃ u : Int, 0 < u ∧ u ≤ 7 ∧ x = .int u := by
      have : x ∈ [D.int 2, .int 3, .int 5, .int 7] := List.mem_of_getElem? hx
      simp only [List.mem_cons, List.not_mem_nil, or_false] at this
      rcases this with rfl | rfl | rfl | rfl
      · exact ⟨2, by decide, by decide, rfl⟩
      · exact ⟨3, by decide, by decide, rfl⟩
      · exact ⟨5, by decide, by decide, rfl⟩
      · exact ⟨7, by decide, by decide, rfl⟩
    refine st_nil ?_
    refine w_pull Ld u1 (by omega) (by omega) fun b S5 b0 b4 L5 k5 n5 => ?_
    obtain ⟨b, rfl⟩ := Int.eq_ofNat_of_zero_le b0
    refine ⟨sz ++ [b], by rw [e1]; unfold nI; simp, by rw [List.length_append, e2]; rfl, fun j hj => ?_, L5.mono (by omega), e5.trans (p3.kp.trans (k4.trans k5)), by omega⟩
    rcases List.mem_append.mp hj with hj | hj
    · exact e3 j hj
    · rw [List.mem_singleton.mp hj]; omega
  · have p3 := Sub.push S2 (O.lst acc)
    have g3 : (S2 ++ [O.lst acc])[S2.length]? = some (.lst acc) := push_at
    have n3 := sub_len p3
    have L3 := e4.sub p3
    have k3 := e5.trans p3.kp
    rw [q_b1, f_tuple, itemsR g3]
    generalize S2 ++ [O.lst acc] = S3 at *
    subst e1
    simp only [Option.map_some, q_ofO, WP_ok, List.set_cons_succ, List.set_cons_zero]
    refine st_ret (st_bin ?_)
    refine st_call (xs := [.tup (nI sz)]) rfl (w_rowsbelow e3 (by omega) (by omega) fun S4 s4 => ?_)
    rw [q_callB, WP_bind]
    refine st_args ?_
    refine st_call (xs := [.tup (nI sz)]) rfl (w_lbelow e3 (by omega) fun r S5 s5 g5 => st_nil ?_)
    rw [q_b1, f_tuple, itemsR g5]
    refine WP_ok.mpr ⟨_, _, eq_tN, WP_ok.mpr (hQ S5 ((L3.sub (s4.trans s5)).mono (by omega)) (k3.trans (s4.trans s5).kp) ?_)⟩
    have := sub_len (s4.trans s5)
    omega
end
end Zk01

namespace Zk01
open PySem PySem.Spec Z
def ch : Nat → Nat → Nat
  | _, 0 => 1
  | 0, _ + 1 => 0
  | n + 1, k + 1 => ch n k + ch n (k + 1)
theorem ch_0 {n : Nat} : ch n 0 = 1 := by cases n <;> rfl
theorem ch_gt : ∀ {n k : Nat}, n < k → ch n k = 0
  | 0, k + 1, _ => rfl
  | n + 1, k + 1, h => by show ch n k + ch n (k + 1) = 0; rw [ch_gt (by omega), ch_gt (by omega)]
theorem ch_succ : ∀ {n k : Nat}, (k + 1) * ch (n + 1) (k + 1) = (n + 1) * ch n k
  | 0, 0 => rfl
  | 0, k + 1 => by rw [ch_gt (by omega), ch_gt (by omega), Nat.mul_zero, Nat.mul_zero]
  | n + 1, 0 => by
    have h := ch_succ (n := n) (k := 0)
    show (0 + 1) * (ch (n + 1) 0 + ch (n + 1) 1) = (n + 1 + 1) * ch (n + 1) 0
    rw [ch_0] at h ⊢
    rw [Nat.mul_add, h]; omega
  | n + 1, k + 1 => by
    have h1 := ch_succ (n := n) (k := k)
    have h2 := ch_succ (n := n) (k := k + 1)
    show (k + 1 + 1) * (ch (n + 1) (k + 1) + ch (n + 1) (k + 1 + 1)) = (n + 1 + 1) * ch (n + 1) (k + 1)
    rw [Nat.mul_add, h2]
    have e : ch (n + 1) (k + 1) = ch n k + ch n (k + 1) := rfl
    have e2 : (k + 1 + 1) * ch (n + 1) (k + 1) = (k + 1) * ch (n + 1) (k + 1) + ch (n + 1) (k + 1) := Nat.succ_mul _ _
    have e3 : (n + 1 + 1) * ch (n + 1) (k + 1) = (n + 1) * ch (n + 1) (k + 1) + ch (n + 1) (k + 1) := Nat.succ_mul _ _
    rw [e2, h1, e3, e, Nat.mul_add]; omega
theorem ch_abs {n k : Nat} (h : k ≤ n) : ch n k * (n - k) = ch n (k + 1) * (k + 1) := by
  have h1 := ch_succ (n := n) (k := k)
  have e : ch (n + 1) (k + 1) = ch n k + ch n (k + 1) := rfl
  rw [e, Nat.mul_add] at h1
  have e1 : (n + 1) * ch n k = (n - k) * ch n k + (k + 1) * ch n k := by rw [← Nat.add_mul]; congr 1; omega
  rw [e1] at h1
  rw [Nat.mul_comm (ch n k), Nat.mul_comm (ch n (k + 1))]
  omega
theorem ch_sym : ∀ {m a b : Nat}, a + b = m → ch m a = ch m b
  | 0, a, b, h => by have : a = 0 := by omega
                     have : b = 0 := by omega
                     subst a b; rfl
  | m + 1, 0, b, h => by
    have : b = m + 1 := by omega
    subst this
    rw [ch_0]
    show 1 = ch m m + ch m (m + 1)
    rw [ch_gt (show m < m + 1 by omega), ← ch_sym (m := m) (a := 0) (b := m) (by omega), ch_0]
  | m + 1, a + 1, 0, h => by
    have : a = m := by omega
    subst this
    rw [ch_0]
    show ch a a + ch a (a + 1) = 1
    rw [ch_gt (show a < a + 1 by omega), ← ch_sym (m := a) (a := 0) (b := a) (by omega), ch_0]
  | m + 1, a + 1, b + 1, h => by
    show ch m a + ch m (a + 1) = ch m b + ch m (b + 1)
    rw [ch_sym (m := m) (a := a) (b := b + 1) (by omega), ch_sym (m := m) (a := a + 1) (b := b) (by omega)]
    omega
theorem ch_le : ∀ {n k : Nat}, ch n k ≤ 2 ^ n
  | 0, 0 => Nat.le_refl _
  | 0, k + 1 => Nat.zero_le _
  | n + 1, 0 => by rw [ch_0]; exact Nat.one_le_two_pow
  | n + 1, k + 1 => by
    have h1 := ch_le (n := n) (k := k)
    have h2 := ch_le (n := n) (k := k + 1)
    show ch n k + ch n (k + 1) ≤ _
    rw [Nat.pow_succ]; omega
section
variable {S S' S0 : Store} {x y d : D} {ds es acc : List D} {l K ms : List Int} {Q : D → Store → Prop} {QF : Fl → Store → Prop} {n k q r p i m : Nat} {env : En} {v : Int}
theorem mul_big {a b : Nat} {c e : Nat} (ha : a < 2 ^ c) (hb : b < 2 ^ e) (h : c + e < 900000) : oMulA (.int (a : Int)) (.int (b : Int)) S = some (.int ((a * b : Nat) : Int), S) := by
  rw [o_mul (mulW (a := c) (b := e) (by rw [Int.natAbs_natCast]; exact ha) (by rw [Int.natAbs_natCast]; exact hb) h), Int.natCast_mul]
theorem bin_step {F1 F2 : Op2} {a b c : Nat} {t : D} {P : Fl → Store → Prop} (h1 : F1 (.int (a : Int)) (.int (b : Int)) S = some (y, S)) (h2 : F2 y (.int ((k + 1 : Nat) : Int)) S = some (.int (c : Int), S)) (hb : (n : Int) - (k : Int) = (b : Int)) (h : P (.nx [some (.int (n : Int)), some t, some (.int (c : Int)), some (.int (k : Int))]) S) :
    WP (sAsg (dBin F2 (dBin F1 (dVar 2) (dBin oSubI (dVar 0) (dVar 3))) (dBin oAdd (dVar 3) (dC (.int 1)))) (gNm 2) [some (.int (n : Int)), some t, some (.int (a : Int)), some (.int (k : Int))] S) P := by
  rw [q_asg, WP_bind]
  have e2 : F2 y (.int ((k : Int) + 1)) S = some (.int (c : Int), S) := h2
  simp only [List.getElem?_cons_zero, List.getElem?_cons_succ, q_bin, q_c, q_var, Res.bind_ok, o_sub, o_add, q_ofO, hb, h1, e2, q_gnm, WP_ok, List.set_cons_succ, List.set_cons_zero]
  exact h
theorem w_binin (hk : k ≤ n) (hn : n ≤ 1000) (hQ : Q (.int (ch n k : Nat)) S) : WP (f_binomial_in [.int (n : Int), .int (k : Int)] S) Q := by
  unfold f_binomial_in
  rw [mkFn_wp]
  unfold b_binomial_in n_binomial_in
  simp only [List.map_cons, List.map_nil, List.length_cons, List.length_nil, List.cons_append, List.nil_append, List.replicate]
  refine st_asg (st_c ?_)
  simp only [List.set_cons_succ, List.set_cons_zero]
  rw [q_seq, WP_bind, q_for, WP_bind, rngE (n := k) rfl (by omega)]
  refine WP_ok.mpr ?_
  refine wp_for k (fun j env S' => ∃ x3, env = [some (.int (n : Int)), some (.int (k : Int)), some (.int (ch n j : Nat)), x3] ∧ S' = S) (by omega) ⟨none, by rw [ch_0]; rfl, rfl⟩
    (fun j env S1 hj ⟨x3, he, hs⟩ => ⟨_, jR_at hj, ?_⟩) fun env S1 ⟨x3, he, hs⟩ => ⟨jR_end, ?_⟩
  · subst he hs
    rw [q_gnm]
    refine WP_ok.mpr ?_
    simp only [List.set_cons_succ, List.set_cons_zero]
    have hb : ch n j < 2 ^ 1001 := by
      have h1 := ch_le (n := n) (k := j)
      have h2 : 2 ^ n ≤ 2 ^ 1000 := Nat.pow_le_pow_right (by decide) hn
      have h3 : 2 ^ 1000 < 2 ^ 1001 := Nat.pow_lt_pow_right (by decide) (by decide)
      exact Nat.lt_of_le_of_lt (Nat.le_trans h1 h2) h3
    have ha := ch_abs (show j ≤ n by omega)
    have hd : oDivI (.int ((ch n j * (n - j) : Nat) : Int)) (.int ((j + 1 : Nat) : Int)) S1 = some (.int (ch n (j + 1) : Nat), S1) := by
      rw [o_div (divOk_of (by omega) (n := 11) (by omega) (by decide))]
      congr 3
      rw [ha]
      show (((ch n (j + 1) * (j + 1)) / (j + 1) : Nat) : Int) = _
      rw [Nat.mul_div_cancel _ (Nat.succ_pos j)]
    refine bin_step (b := n - j) (mul_big hb (show n - j < 2 ^ 10 by omega) (by decide)) hd (by omega) ⟨_, rfl, rfl⟩
  · subst he hs
    exact st_ret (st_var rfl (WP_ok.mpr hQ))
theorem w_reqcount {a b : Int} (h : v.natAbs ≤ 10 ^ 50) (ha : a ≤ v) (hb : v ≤ b) (hQ : Q .non S) : WP (f_require_count [.int v, .int a, .int b] S) Q := by
  unfold f_require_count
  rw [mkFn_wp]
  unfold b_require_count n_require_count
  simp only [List.map_cons, List.map_nil, List.length_cons, List.length_nil, List.cons_append, List.nil_append, List.replicate]
  rw [q_sif, WP_bind]
  refine st_or (st_not (st_tst ?_))
  refine st_call (xs := [.int v]) rfl ?_
  rw [e_integer, isI_of h]
  refine WP_ok.mpr ⟨true, rfl, rfl, ?_⟩
  refine st_or (st_cmp (st_var rfl (st_var rfl ⟨_, _, o_lt, decide_eq_false (by omega), ?_⟩)))
  refine st_cmp (st_var rfl (st_var rfl ⟨_, _, o_gt, ?_⟩))
  rw [decide_eq_false (by omega), if_neg (by decide)]
  exact WP_ok.mpr (WP_ok.mpr hQ)
theorem w_binomial (hk : k ≤ 1000) (hn : n ≤ 1000) (hQ : Q (.int (ch n k : Nat)) S) : WP (f_binomial [.int (n : Int), .int (k : Int)] S) Q := by
  unfold f_binomial
  rw [mkFn_wp]
  unfold b_binomial n_binomial
  simp only [List.map_cons, List.map_nil, List.length_cons, List.length_nil, List.cons_append, List.nil_append, List.replicate]
  refine st_expr (st_call (xs := [.int (n : Int), .int 0, .int 1000]) rfl (w_reqcount (by omega) (by omega) (by omega) ?_))
  refine st_expr (st_call (xs := [.int (k : Int), .int 0, .int 1000]) rfl (w_reqcount (by omega) (by omega) (by omega) ?_))
  refine st_ret ?_
  rw [q_if, WP_bind]
  refine st_cmp (st_var rfl (st_var rfl ⟨_, S, o_le, ?_⟩))
  by_cases h : k ≤ n
  · rw [decide_eq_true (by omega), if_pos rfl]
    exact st_call (xs := [.int (n : Int), .int (k : Int)]) rfl (w_binin h hn (WP_ok.mpr hQ))
  · rw [decide_eq_false (by omega), if_neg (by decide)]
    refine st_c (WP_ok.mpr ?_)
    rw [ch_gt (by omega)] at hQ
    exact hQ
end
end Zk01

set_option exponentiation.threshold 3000
namespace Zk01
open PySem PySem.Spec Z
def mu (c k : Nat) : Nat := (if k = 0 then 0 else (c * k).log2 + 1) + (if c < k then 1 else 0)
theorem mu_step {c k : Nat} (hk : 0 < k) : mu k (c % k) < mu c k := by
  unfold mu
  by_cases h : c < k
  · rw [Nat.mod_eq_of_lt h, if_neg (show ¬ k = 0 by omega), if_pos h, if_neg (show ¬ k < c by omega)]
    split
    · omega
    · rw [Nat.mul_comm]; omega
  · have hr := Nat.mod_lt c hk
    rw [if_neg (show ¬ k = 0 by omega), if_neg h, if_neg (show ¬ k < c % k by omega)]
    split
    · omega
    · rename_i h0
      have h1 : 2 * (k * (c % k)) ≤ c * k := by
        have h2 : c % k + k ≤ c := by
          have h3 := Nat.div_add_mod c k
          have h4 : 1 ≤ c / k := (Nat.one_le_div_iff hk).mpr (by omega)
          have h5 : k * 1 ≤ k * (c / k) := Nat.mul_le_mul_left _ h4
          omega
        have h3 : k * (2 * (c % k)) ≤ k * c := Nat.mul_le_mul_left _ (by omega)
        rw [Nat.mul_comm c k, ← Nat.mul_assoc, Nat.mul_comm 2 k, Nat.mul_assoc]
        exact h3
      have h6 : 0 < k * (c % k) := Nat.mul_pos hk (by omega)
      have h7 : (k * (c % k)).log2 + 1 ≤ (c * k).log2 := by
        rw [Nat.le_log2 (by omega), Nat.pow_succ, Nat.mul_comm]
        have := Nat.log2_self_le (n := k * (c % k)) (by omega)
        omega
      omega
theorem mu_bd {c k A : Nat} (hc : c < 2 ^ A) (hk : k < 2 ^ A) : mu c k ≤ 2 * A + 2 := by
  unfold mu
  have h1 : (c * k).log2 ≤ 2 * A := by
    by_cases z : c * k = 0
    · rw [z]; simp
    · refine Nat.le_of_lt ((Nat.log2_lt z).mpr ?_)
      rw [Nat.two_mul, Nat.pow_add]
      exact Nat.mul_lt_mul'' hc hk
  split <;> split <;> omega
section
variable {S S' S0 : Store} {x y d : D} {ds es acc : List D} {l K ms : List Int} {Q : D → Store → Prop} {QF : Fl → Store → Prop} {n k q r p i m : Nat} {env : En} {v : Int} {a b s : Int}
def gg (a b : Int) : Nat := Nat.gcd a.natAbs b.natAbs
theorem e_gcd : b2 fGcd [.int a, .int b] S = some (.int (gg a b : Nat), S) := rfl
theorem abs_nat : fAbs (.int a) S = some (.int (a.natAbs : Nat), S) := by
  rw [f_abs]
  congr 3
  by_cases h : a < 0
  · rw [if_pos h]; omega
  · rw [if_neg h]; omega
theorem gcd_step {F : Op2} {c k e : Nat} {P : Fl → Store → Prop} (em : F (.int (c : Int)) (.int (k : Int)) S = some (.int (e : Int), S)) (h : P (.nx [some (.int (k : Int)), some (.int (e : Int))]) S) :
    WP (sAsg (dTup (dCons (dVar 1) (dCons (dBin F (dCallB (b1 fInt) (dCons (dVar 0) dNil)) (dVar 1)) dNil))) (gTup 2 (gCons (gNm 0) (gCons (gNm 1) gNil))) [some (.int (c : Int)), some (.int (k : Int))] S) P := by
  rw [q_asg, WP_bind]
  simp only [List.getElem?_cons_zero, List.getElem?_cons_succ, q_tup, q_cons, q_nil, q_bin, q_callB, q_var, Res.bind_ok, q_b1, f_intI, q_ofO, em, List.length_cons, List.length_nil]
  rw [if_pos (by have : sl = 16777216 := rfl; omega)]
  simp only [q_gtup, q_gcons, q_gnil, q_gnm, Res.bind_ok, WP_ok, List.length_cons, List.length_nil, if_true, List.set_cons_succ, List.set_cons_zero]
  exact h
theorem w_lgcd (ha : a.natAbs < 2 ^ 1000) (hb : b.natAbs < 2 ^ 1000) (hQ : Q (.int (gg a b : Nat)) S) : WP (f__law_gcd [.int a, .int b] S) Q := by
  unfold f__law_gcd
  rw [mkFn_wp]
  unfold b__law_gcd n__law_gcd
  simp only [List.map_cons, List.map_nil, List.length_cons, List.length_nil, List.cons_append, List.nil_append, List.replicate]
  refine st_asg2 ?_
  refine st_ok (v := .int (a.natAbs : Nat)) (S := S) (by simp only [q_callB, q_cons, q_nil, q_var, List.getElem?_cons_zero, List.getElem?_cons_succ, Res.bind_ok, q_b1, abs_nat, q_ofO]) ?_
  refine st_ok (v := .int (b.natAbs : Nat)) (S := S) (by simp only [q_callB, q_cons, q_nil, q_var, List.getElem?_cons_zero, List.getElem?_cons_succ, Res.bind_ok, q_b1, abs_nat, q_ofO]) ?_
  simp only [List.set_cons_succ, List.set_cons_zero]
  rw [q_seq, WP_bind, q_while]
  refine wp_while (fun m env S' => ∃ c k : Nat, env = [some (.int (c : Int)), some (.int (k : Int))] ∧ S' = S ∧ Nat.gcd c k = gg a b ∧ mu c k = m) (mu a.natAbs b.natAbs) (by have := mu_bd ha hb; omega) ⟨a.natAbs, b.natAbs, rfl, rfl, rfl, rfl⟩ fun m env S1 ⟨c, k, he, hS, hg, hm⟩ => ?_
  subst he hS hm
  refine st_cmp (st_var rfl (st_c ⟨_, S1, o_gt, ?_⟩))
  by_cases h0 : k = 0
  · subst h0
    rw [decide_eq_false (by omega), if_neg (by decide)]
    rw [Nat.gcd_zero_right] at hg
    dsimp only
    rw [← hg] at hQ
    exact st_ret (st_var rfl (WP_ok.mpr hQ))
  · rw [decide_eq_true (by omega), if_pos rfl]
    have em : oModI (.int (c : Int)) (.int (k : Int)) S1 = some (.int ((c % k : Nat) : Int), S1) := by rw [o_mod (by omega)]; rfl
    refine gcd_step em ⟨mu k (c % k), mu_step (by omega), k, c % k, rfl, rfl, ?_, rfl⟩
    rw [← hg, Nat.gcd_comm c k, Nat.gcd_rec k c, Nat.gcd_comm]
def gf (l : List Int) : Nat := l.foldl (fun g x => gg (g : Int) x) 0
theorem gf_snoc {x : Int} : gf (l ++ [x]) = gg (gf l : Int) x := by unfold gf; rw [List.foldl_append]; rfl
theorem gg_le {B : Nat} (ha : a.natAbs ≤ B) (hb : b.natAbs ≤ B) : gg a b ≤ B := by
  unfold gg
  by_cases h : b.natAbs = 0
  · rw [h, Nat.gcd_zero_right]; exact ha
  · exact Nat.le_trans (Nat.gcd_le_right _ (by omega)) hb
theorem gf_le {B : Nat} (h : ∀ x ∈ l, x.natAbs ≤ B) : ∀ k, gf (l.take k) ≤ B
  | 0 => Nat.zero_le _
  | k + 1 => by
    by_cases hk : k < l.length
    · rw [List.take_succ_eq_append_getElem hk, gf_snoc]
      exact gg_le (by rw [Int.natAbs_natCast]; exact gf_le h k) (h _ (List.getElem_mem hk))
    · have := gf_le h k
      rw [List.take_of_length_le (by omega)] at this ⊢
      exact this
theorem w_lgcdof (hl : l.length ≤ 100) (hb : ∀ x ∈ l, x.natAbs ≤ 2 ^ 100) (hQ : Q (.int (gf l : Nat)) S) : WP (f__law_gcd_of [.tup (iL l)] S) Q := by
  unfold f__law_gcd_of
  rw [mkFn_wp]
  unfold b__law_gcd_of n__law_gcd_of
  simp only [List.map_cons, List.map_nil, List.length_cons, List.length_nil, List.cons_append, List.nil_append, List.replicate]
  refine st_asg (st_c ?_)
  simp only [List.set_cons_succ, List.set_cons_zero]
  rw [q_seq, WP_bind, q_for, WP_bind, q_seqi, q_var]
  show WP (Res.ok (jT (iL l)) S) _
  refine WP_ok.mpr ?_
  refine wp_for l.length (fun k env S' => ∃ x2, env = [some (.tup (iL l)), some (.int (gf (l.take k) : Nat)), x2] ∧ S' = S) (by omega) ⟨none, rfl, rfl⟩
    (fun k env S1 hk ⟨x2, he, hs⟩ => ⟨.int l[k], by show some (iL l)[k]? = _; rw [iL_at hk], ?_⟩) fun env S1 ⟨x2, he, hs⟩ => ⟨by show some (iL l)[_]? = _; rw [List.getElem?_eq_none (by rw [iL_len]; exact Nat.le_refl _)], ?_⟩
  · subst he hs
    rw [q_gnm]
    refine WP_ok.mpr ?_
    simp only [List.set_cons_succ, List.set_cons_zero]
    rw [q_asg, WP_bind]
    have h1 := gf_le hb k
    have h2 := hb _ (List.getElem_mem hk)
    have h3 : (2 : Nat) ^ 100 < 2 ^ 1000 := Nat.pow_lt_pow_right (by decide) (by decide)
    refine st_call (xs := [.int (gf (l.take k) : Nat), .int l[k]]) rfl (w_lgcd (by rw [Int.natAbs_natCast]; exact Nat.lt_of_le_of_lt h1 h3) (Nat.lt_of_le_of_lt h2 h3) ?_)
    simp only [q_gnm, Res.bind_ok, WP_ok, List.set_cons_succ, List.set_cons_zero]
    exact ⟨_, by rw [List.take_succ_eq_append_getElem hk, gf_snoc], trivial⟩
  · subst he hs
    rw [List.take_length]
    exact st_ret (st_var rfl (WP_ok.mpr hQ))
theorem w_common (hl : l.length ≤ 100) (hb : ∀ x ∈ l, x.natAbs ≤ 10 ^ 50) (hQ : ∀ S', Sub S S' → Q (.int (gf l : Nat)) S') : WP (f_common_divisor [.tup (iL l)] S) Q := by
  unfold f_common_divisor
  rw [mkFn_wp]
  unfold b_common_divisor n_common_divisor
  simp only [List.map_cons, List.map_nil, List.length_cons, List.length_nil, List.cons_append, List.nil_append, List.replicate]
  refine st_if (st_or (st_not (st_tst (st_ok (v := .bl true) (S := S) rfl ⟨true, rfl, rfl, ?_⟩))))
  refine st_not (st_tst ?_)
  rw [q_callB, WP_bind]
  refine st_args ?_
  refine wp_rel (fun _ d (_ : Int) => d = .bl true) (fun _ _ _ _ h _ => h) l (iL l) (fun _ => true) (fun k => k) (by omega) (iL_len _) ?_ (fun j a da S3 hj hd3 s3 => ?_) fun S3 ys s3 hys => ?_
  · rw [q_seqi, q_var]
    exact WP_ok.mpr ⟨Sub.refl _, fun k S2 _ _ => rfl⟩
  · have ed : da = .int a := by
      unfold iL at hd3
      rw [List.getElem?_map, hj] at hd3
      exact (Option.some.inj hd3).symm
    subst ed
    rw [q_gnm]
    refine WP_ok.mpr (WP_ok.mpr ⟨rfl, Sub.refl _, fun _ => ?_⟩)
    simp only [wipe_cons, wipe_nil, List.set_cons_succ, List.set_cons_zero]
    refine st_call (xs := [.int a]) rfl ?_
    rw [e_integer, isI_of (hb a (List.mem_of_getElem? hj))]
    exact WP_ok.mpr ⟨rfl, Sub.refl _⟩
  · rw [filter_tt] at hys
    have g : (S3 ++ [O.lst ys])[S3.length]? = some (.lst ys) := push_at
    have hall : ∀ d ∈ ys, d = .bl true := fun d hd => by
      obtain ⟨k, hk, e⟩ := List.getElem_of_mem hd
      have hk2 : k < (l.map fun k => k).length := by rw [← hys.1]; exact hk
      obtain ⟨d', e', r⟩ := hys.get hk2
      rw [List.getElem?_eq_getElem hk, e] at e'
      cases e'
      exact r
    refine st_nil ?_
    rw [q_b1, all_true g hall, q_ofO]
    refine WP_ok.mpr ⟨true, rfl, rfl, ?_⟩
    have s4 := s3.trans (Sub.push S3 (O.lst ys))
    generalize S3 ++ [O.lst ys] = S4 at *
    refine st_asg (st_c ?_)
    simp only [List.set_cons_succ, List.set_cons_zero]
    rw [q_seq, WP_bind, q_for, WP_bind, q_seqi, q_var]
    show WP (Res.ok (jT (iL l)) S4) _
    refine WP_ok.mpr ?_
    refine wp_for l.length (fun k env S' => ∃ x2, env = [some (.tup (iL l)), some (.int (gf (l.take k) : Nat)), x2] ∧ S' = S4) (by omega) ⟨none, rfl, rfl⟩
      (fun k env S1 hk ⟨x2, he, hs⟩ => ⟨.int l[k], by show some (iL l)[k]? = _; rw [iL_at hk], ?_⟩) fun env S1 ⟨x2, he, hs⟩ => ⟨by show some (iL l)[_]? = _; rw [List.getElem?_eq_none (by rw [iL_len]; exact Nat.le_refl _)], ?_⟩
    · subst he hs
      rw [q_gnm]
      refine WP_ok.mpr ?_
      simp only [List.set_cons_succ, List.set_cons_zero]
      rw [q_asg, WP_bind]
      have eg : dCallB (b2 fGcd) (dCons (dVar 1) (dCons (dVar 2) dNil)) [some (.tup (iL l)), some (.int (gf (l.take k) : Nat)), some (.int l[k])] S1 = .ok (.int (gg (gf (l.take k) : Int) l[k] : Nat)) S1 := rfl
      rw [eg]
      refine WP_ok.mpr ?_
      simp only [q_gnm, Res.bind_ok, WP_ok, List.set_cons_succ, List.set_cons_zero]
      exact ⟨_, by rw [List.take_succ_eq_append_getElem hk, gf_snoc], trivial⟩
    · subst he hs
      rw [List.take_length]
      exact st_ret (st_var rfl (WP_ok.mpr (hQ _ s4)))
def sg (a b : Int) : Int := if b < 0 then -(gg a b : Int) else (gg a b : Int)
def frac (a b : Int) : List Int := [a.fdiv (sg a b), b.fdiv (sg a b)]
theorem gg_pos (hb : b ≠ 0) : 0 < gg a b := Nat.gcd_pos_of_pos_right _ (by omega)
theorem sg_ne (hb : b ≠ 0) : sg a b ≠ 0 := by
  have := gg_pos (a := a) hb
  unfold sg
  split <;> omega
theorem o_fd {j : Int} (h0 : j ≠ 0) (hj : j.natAbs < 2 ^ 1000) : (orO oDivI oDivN) (.int a) (.int j) S = some (.int (a.fdiv j), S) := by
  unfold orO
  by_cases h : 0 < j
  · rw [o_div (divOk_of h (n := 1000) hj (by decide)), Int.fdiv_eq_ediv_of_nonneg _ (by omega)]
  · have e1 : oDivI (.int a) (.int j) S = none := by
      unfold oDivI oInt
      dsimp only
      have : divOk a j = false := by unfold divOk; rw [decide_eq_false h]; rfl
      rw [this]; rfl
    rw [e1]
    unfold oDivN oInt
    dsimp only
    have : divNOk a j = true := by
      unfold divNOk
      have a2 : j.natAbs.log2 ≤ 1000 := Nat.le_of_lt ((Nat.log2_lt (by omega)).mpr hj)
      rw [decide_eq_false h0, decide_eq_true (show j.natAbs.log2 < 9000 by omega)]; rfl
    rw [this]; rfl
theorem sg_nat (hb : b ≠ 0) {B : Nat} (h : b.natAbs < B) : (sg a b).natAbs < B := by
  have h1 : gg a b ≤ b.natAbs := Nat.gcd_le_right _ (by omega)
  unfold sg
  split <;> omega
theorem fr_end {F : Op2} {u w : Int} {y : D} {P : D → Store → Prop} (h1 : F (.int a) (.int s) S = some (.int u, S)) (h2 : F (.int b) (.int s) S = some (.int w, S)) (h : P (.tup (iL [u, w])) S) :
    WP (dTup (dCons (dBin F (dVar 0) (dVar 2)) (dCons (dBin F (dVar 1) (dVar 2)) dNil)) [some (.int a), some (.int b), some (.int s)] S) P := by
  simp only [List.getElem?_cons_zero, List.getElem?_cons_succ, q_tup, q_cons, q_nil, q_bin, q_var, Res.bind_ok, q_ofO, h1, h2, List.length_cons, List.length_nil]
  rw [if_pos (by have : sl = 16777216 := rfl; omega)]
  exact WP_ok.mpr h
theorem w_lfraction (hb : b ≠ 0) (ha : a.natAbs < 2 ^ 1000) (hB : b.natAbs < 2 ^ 1000) (hQ : Q (.tup (iL (frac a b))) S) : WP (f__law_fraction [.int a, .int b] S) Q := by
  have hs := sg_ne (a := a) hb
  have hsB := sg_nat (a := a) hb hB
  unfold f__law_fraction
  rw [mkFn_wp]
  unfold b__law_fraction n__law_fraction
  simp only [List.map_cons, List.map_nil, List.length_cons, List.length_nil, List.cons_append, List.nil_append, List.replicate]
  refine st_asg (st_call (xs := [.int a, .int b]) rfl (w_lgcd ha hB ?_))
  simp only [List.set_cons_succ, List.set_cons_zero]
  rw [q_seq, WP_bind, q_sif, WP_bind]
  refine st_cmp (st_var rfl (st_c ⟨_, S, o_lt, ?_⟩))
  have fin : ∀ s, s = sg a b → WP (sRet (dTup (dCons (dBin (orO oDivI oDivN) (dVar 0) (dVar 2)) (dCons (dBin (orO oDivI oDivN) (dVar 1) (dVar 2)) dNil))) [some (.int a), some (.int b), some (.int s)] S) fun f S1 => WP (match f with | .rt d => Res.ok d S1 | .nx e => Res.ok D.non S1 | x => Res.bad) Q := fun s e => by
    subst e
    exact st_ret (fr_end (y := .non) (o_fd hs hsB) (o_fd hs hsB) (WP_ok.mpr hQ))
  by_cases h : b < 0
  · rw [decide_eq_true h, if_pos rfl, q_asg, WP_bind]
    refine st_ok (v := .int (-(gg a b : Int))) (S := S) (by simp only [q_un, q_var, List.getElem?_cons_zero, List.getElem?_cons_succ, Res.bind_ok, o_neg, q_ofO]) ?_
    simp only [q_gnm, Res.bind_ok, WP_ok, List.set_cons_succ, List.set_cons_zero]
    exact fin _ (by unfold sg; rw [if_pos h])
  · rw [decide_eq_false h, if_neg (by decide)]
    refine WP_ok.mpr ?_
    exact fin _ (by unfold sg; rw [if_neg h])
theorem w_fraction (hb : b ≠ 0) (ha : a.natAbs ≤ 10 ^ 50) (hB : b.natAbs ≤ 10 ^ 50) (hQ : Q (.tup (iL (frac a b))) S) : WP (f_fraction [.int a, .int b] S) Q := by
  have h5 : (10 : Nat) ^ 50 < 2 ^ 1000 := Nat.lt_trans (show 10 ^ 50 < 2 ^ 200 by decide) (Nat.pow_lt_pow_right (by decide) (by decide))
  have hs := sg_ne (a := a) hb
  have hsB := sg_nat (a := a) hb (Nat.lt_of_le_of_lt hB h5)
  unfold f_fraction
  rw [mkFn_wp]
  unfold b_fraction n_fraction
  simp only [List.map_cons, List.map_nil, List.length_cons, List.length_nil, List.cons_append, List.nil_append, List.replicate]
  refine st_expr (st_call (xs := [.int a]) rfl ?_)
  unfold f_require_integer
  rw [mkFn_wp]
  unfold b_require_integer n_require_integer
  simp only [List.map_cons, List.map_nil, List.length_cons, List.length_nil, List.cons_append, List.nil_append, List.replicate]
  rw [q_sif, WP_bind]
  refine st_not (st_tst ?_)
  refine st_call (xs := [.int a]) rfl ?_
  rw [e_integer, isI_of ha]
  refine WP_ok.mpr ⟨true, rfl, ?_⟩
  rw [Bool.not_true, if_neg (by decide)]
  refine WP_ok.mpr (WP_ok.mpr ?_)
  refine st_if (st_or (st_not (st_tst ?_)))
  refine st_call (xs := [.int b]) rfl ?_
  rw [e_integer, isI_of hB]
  refine WP_ok.mpr ⟨true, rfl, rfl, ?_⟩
  refine st_cmp (st_var rfl (st_c ⟨_, S, o_eqI, decide_eq_false hb, ?_⟩))
  refine st_ret (st_call (xs := [.int a, .int b]) rfl ?_)
  unfold f_fraction_in
  rw [mkFn_wp]
  unfold b_fraction_in n_fraction_in
  simp only [List.map_cons, List.map_nil, List.length_cons, List.length_nil, List.cons_append, List.nil_append, List.replicate]
  refine st_asg (st_ok (v := .int (gg a b : Nat)) (S := S) rfl ?_)
  simp only [List.set_cons_succ, List.set_cons_zero]
  rw [q_seq, WP_bind, q_sif, WP_bind]
  refine st_cmp (st_var rfl (st_c ⟨_, S, o_lt, ?_⟩))
  by_cases h : b < 0
  · rw [decide_eq_true h, if_pos rfl, q_asg, WP_bind]
    refine st_ok (v := .int (-(gg a b : Int))) (S := S) (by simp only [q_un, q_var, List.getElem?_cons_zero, List.getElem?_cons_succ, Res.bind_ok, o_neg, q_ofO]) ?_
    simp only [q_gnm, Res.bind_ok, WP_ok, List.set_cons_succ, List.set_cons_zero]
    have e : -(gg a b : Int) = sg a b := by unfold sg; rw [if_pos h]
    rw [e]
    exact st_ret (fr_end (y := .non) (o_fd hs hsB) (o_fd hs hsB) (WP_ok.mpr (WP_ok.mpr hQ)))
  · rw [decide_eq_false h, if_neg (by decide)]
    refine WP_ok.mpr ?_
    have e : (gg a b : Int) = sg a b := by unfold sg; rw [if_neg h]
    dsimp only
    rw [e]
    exact st_ret (fr_end (y := .non) (o_fd hs hsB) (o_fd hs hsB) (WP_ok.mpr (WP_ok.mpr hQ)))
theorem frac_mul {s : Int} (hs : 0 < s) : frac (a * s) (b * s) = frac a b := by
  have e1 : (gg (a * s) (b * s) : Int) = s * (gg a b : Int) := by
    unfold gg
    rw [Int.natAbs_mul, Int.natAbs_mul, Nat.gcd_mul_right, Int.natCast_mul, Int.mul_comm]
    congr 1
    omega
  have e2 : sg (a * s) (b * s) = s * sg a b := by
    unfold sg
    by_cases h : b < 0
    · rw [if_pos h, if_pos (Int.mul_neg_of_neg_of_pos h hs), e1, Int.mul_neg]
    · rw [if_neg h, if_neg (by have := Int.mul_nonneg (show 0 ≤ b by omega) (show 0 ≤ s by omega); omega), e1]
  unfold frac
  rw [e2, Int.mul_comm a, Int.mul_comm b, Int.mul_fdiv_mul_of_pos _ _ hs, Int.mul_fdiv_mul_of_pos _ _ hs]
theorem frac_zero (hb : b ≠ 0) : frac 0 b = [0, 1] := by
  have e : sg 0 b = b := by
    unfold sg gg
    rw [Int.natAbs_zero, Nat.gcd_zero_left]
    split <;> omega
  unfold frac
  rw [e, Int.zero_fdiv, Int.fdiv_self hb]
end
end Zk01

set_option exponentiation.threshold 3000
namespace Zk01
open PySem PySem.Spec Z
section
variable {S S' S0 : Store} {x y d : D} {ds es acc : List D} {l K ms : List Int} {Q : D → Store → Prop} {QF : Fl → Store → Prop} {n k q r p i m t : Nat} {env : En} {v : Int} {a b s : Int}
def prow (k : Nat) : List Int := (List.range (k + 1)).map fun j => ((ch k j : Nat) : Int)
theorem prow_len : (prow k).length = k + 1 := by unfold prow; simp
theorem prow_at {j : Nat} (h : j < (prow k).length) : (prow k)[j] = ((ch k j : Nat) : Int) := (List.getElem_map _).trans (by rw [List.getElem_range])
theorem prow_next : (List.zip (0 :: prow k) (prow k ++ [0])).map (fun z => z.1 + z.2) = prow (k + 1) := by
  refine List.ext_getElem (by rw [List.length_map, List.length_zip, List.length_cons, List.length_append, List.length_cons, List.length_nil, prow_len, prow_len]; omega) fun j h1 h2 => ?_
  have hj : j < k + 2 := by rw [prow_len] at h2; exact h2
  rw [prow_at h2, List.getElem_map, List.getElem_zip]
  have e2 : (prow k ++ [0])[j]'(by rw [List.length_append, prow_len]; exact hj) = ((ch k j : Nat) : Int) := by
    by_cases q : j < k + 1
    · rw [List.getElem_append_left (by rw [prow_len]; exact q)]
      exact prow_at _
    · have : j = k + 1 := by omega
      subst this
      rw [List.getElem_append_right (by rw [prow_len]; exact Nat.le_refl _), ch_gt (by omega)]
      simp
  show (0 :: prow k)[j]'_ + (prow k ++ [0])[j]'_ = _
  rw [e2]
  cases j with
  | zero => show 0 + _ = _; rw [ch_0, ch_0, Int.zero_add]
  | succ j =>
    have e1 : (0 :: prow k)[j + 1]'(by rw [List.length_cons, prow_len]; exact hj) = ((ch k j : Nat) : Int) := by
      exact prow_at (by rw [prow_len]; omega)
    rw [e1]
    show _ = ((ch k j + ch k (j + 1) : Nat) : Int)
    rw [Int.natCast_add]
theorem prow_end : (List.range (k + 3)).map (fun j => ((ch k j : Nat) : Int)) = prow k ++ [0, 0] := by
  unfold prow
  have e : List.range (k + 3) = List.range (k + 1) ++ [k + 1, k + 2] := by
    rw [List.range_succ, List.range_succ, List.append_assoc]; rfl
  rw [e, List.map_append]
  congr 1
  simp only [List.map_cons, List.map_nil]
  rw [ch_gt (show k < k + 1 by omega), ch_gt (show k < k + 2 by omega)]
  rfl
theorem w_pascal {x3 x4 x5 x6 x7 : Option D} (ht : t ≤ 40) (g2 : S[r]? = some (.lst (iL (prow 0))))
    (hQ : ∀ r x3 S', Sub S S' → S'[r]? = some (.lst (iL (prow t))) → QF (.nx [some d, some (.int (t : Int)), some (.ref r), x3, x4, x5, x6, x7, none, none, none]) S') :
    WP (sFor (iRng1 (dCons (dVar 1) dNil)) (gNm 3) (sAsg (dLc (iZip (dCons (dBin oAdd (dLst (dCons (dC (.int 0)) dNil)) (dVar 2)) (dCons (dBin oAdd (dVar 2) (dLst (dCons (dC (.int 0)) dNil))) dNil))) (gTup 2 (gCons (gNm 8) (gCons (gNm 9) gNil))) tYes1 (dBin oAdd (dVar 8) (dVar 9)) [8, 9]) (gNm 2)) [some d, some (.int (t : Int)), some (.ref r), x3, x4, x5, x6, x7, none, none, none] S) QF := by
  rw [q_for, WP_bind, rngE (n := t) rfl (by omega)]
  refine WP_ok.mpr ?_
  refine wp_for t (fun k env S' => ∃ r x3, env = [some d, some (.int (t : Int)), some (.ref r), x3, x4, x5, x6, x7, none, none, none] ∧ Sub S S' ∧ S'[r]? = some (.lst (iL (prow k)))) (by omega) ⟨r, x3, rfl, Sub.refl _, g2⟩
    (fun k env S1 hk ⟨r, x3, he, s1, g1⟩ => ⟨_, jR_at hk, ?_⟩) fun env S1 ⟨r, x3, he, s1, g1⟩ => ⟨jR_end, ?_⟩
  · subst he
    rw [q_gnm]
    refine WP_ok.mpr ?_
    simp only [List.set_cons_succ, List.set_cons_zero]
    rw [q_asg, WP_bind]
    have p2 := Sub.push S1 (O.lst (iL [0]))
    have h2 : (S1 ++ [O.lst (iL [0])])[S1.length]? = some (.lst (iL [0])) := push_at
    have p3 := Sub.push (S1 ++ [O.lst (iL [0])]) (O.lst (iL ([0] ++ prow k)))
    have ea : dBin oAdd (dLst (dCons (dC (.int 0)) dNil)) (dVar 2) [some d, some (.int (t : Int)), some (.ref r), some (.int (k : Int)), x4, x5, x6, x7, none, none, none] S1 = .ok (.ref (S1 ++ [O.lst (iL [0])]).length) (S1 ++ [O.lst (iL [0])] ++ [O.lst (iL ([0] ++ prow k))]) := by
      have e0 : dLst (dCons (dC (.int 0)) dNil) [some d, some (.int (t : Int)), some (.ref r), some (.int (k : Int)), x4, x5, x6, x7, none, none, none] S1 = .ok (.ref S1.length) (S1 ++ [.lst (iL [0])]) := rfl
      rw [q_bin, e0, Res.bind_ok, q_var]
      simp only [List.getElem?_cons_zero, List.getElem?_cons_succ, Res.bind_ok]
      rw [add_lst h2 (p2 _ _ g1) (by rw [prow_len]; simp; omega), q_ofO]
    have h3 : (S1 ++ [O.lst (iL [0])] ++ [O.lst (iL ([0] ++ prow k))])[(S1 ++ [O.lst (iL [0])]).length]? = some (.lst (iL ([0] ++ prow k))) := push_at
    have s3 := p2.trans p3
    generalize (S1 ++ [O.lst (iL [0])]).length = r3 at ea h3
    generalize S1 ++ [O.lst (iL [0])] ++ [O.lst (iL ([0] ++ prow k))] = S3 at ea h3 s3
    have p4 := Sub.push S3 (O.lst (iL [0]))
    have h4 : (S3 ++ [O.lst (iL [0])])[S3.length]? = some (.lst (iL [0])) := push_at
    have p5 := Sub.push (S3 ++ [O.lst (iL [0])]) (O.lst (iL (prow k ++ [0])))
    have eb : dBin oAdd (dVar 2) (dLst (dCons (dC (.int 0)) dNil)) [some d, some (.int (t : Int)), some (.ref r), some (.int (k : Int)), x4, x5, x6, x7, none, none, none] S3 = .ok (.ref (S3 ++ [O.lst (iL [0])]).length) (S3 ++ [O.lst (iL [0])] ++ [O.lst (iL (prow k ++ [0]))]) := by
      have e0 : dLst (dCons (dC (.int 0)) dNil) [some d, some (.int (t : Int)), some (.ref r), some (.int (k : Int)), x4, x5, x6, x7, none, none, none] S3 = .ok (.ref S3.length) (S3 ++ [.lst (iL [0])]) := rfl
      rw [q_bin, q_var]
      simp only [List.getElem?_cons_zero, List.getElem?_cons_succ, Res.bind_ok, e0]
      rw [add_lst ((s3.trans p4) _ _ g1) h4 (by rw [prow_len]; simp; omega), q_ofO]
    have h5 : (S3 ++ [O.lst (iL [0])] ++ [O.lst (iL (prow k ++ [0]))])[(S3 ++ [O.lst (iL [0])]).length]? = some (.lst (iL (prow k ++ [0]))) := push_at
    have s5 := p4.trans p5
    generalize (S3 ++ [O.lst (iL [0])]).length = r5 at eb h5
    generalize S3 ++ [O.lst (iL [0])] ++ [O.lst (iL (prow k ++ [0]))] = S5 at eb h5 s5
    have ll : ([0] ++ prow k).length = (prow k ++ [0]).length := by simp
    refine wp_ints (List.zip ([0] ++ prow k) (prow k ++ [0])) ((List.zip ([0] ++ prow k) (prow k ++ [0])).map pr2) (fun _ => true) (fun z => z.1 + z.2) (by rw [List.length_zip, List.length_append, List.length_append, prow_len]; simp; omega) (by simp) ?_ (fun j z da S6 ha hd6 s6 => ?_) fun S6 s6 => ?_
    · rw [q_zip, q_cons, ea, Res.bind_ok, q_cons, eb, Res.bind_ok, q_nil, Res.bind_ok, Res.bind_ok, Res.bind_ok]
      dsimp only
      rw [if_pos ⟨by rw [itemsR (s5 _ _ h3)]; rfl, by rw [itemsR h5]; rfl⟩]
      refine WP_ok.mpr ⟨s3.trans s5, fun k S2 hk s2 => ?_⟩
      rw [List.length_zip] at hk
      exact jZ_at (itemsR ((s5.trans s2) _ _ h3)) (itemsR (s2 _ _ h5)) ll (by omega)
    · rw [List.getElem?_map, ha] at hd6
      obtain rfl := Option.some.inj hd6
      simp only [pr2, q_gtup, q_gcons, q_gnil, q_gnm, Res.bind_ok, List.length_cons, List.length_nil, if_true, wipe_cons, wipe_nil, List.set_cons_succ, List.set_cons_zero]
      refine WP_ok.mpr (WP_ok.mpr ⟨rfl, Sub.refl _, fun _ => ?_⟩)
      exact st_bin (st_var rfl (st_var rfl ⟨_, _, o_add, rfl, Sub.refl _⟩))
    · rw [filter_tt]
      simp only [q_gnm, Res.bind_ok, WP_ok, List.set_cons_succ, List.set_cons_zero]
      refine ⟨_, _, rfl, s1.trans (s6.trans (Sub.push _ _)), ?_⟩
      rw [← prow_next]
      exact push_at
  · subst he
    exact hQ r x3 S1 s1 g1
end
end Zk01

set_option exponentiation.threshold 3000
namespace Zk01
open PySem PySem.Spec Z
section
variable {S S' S0 : Store} {x y d : D} {ds es acc : List D} {l K ms : List Int} {Q : D → Store → Prop} {QF : Fl → Store → Prop} {n k q r p i m t : Nat} {env : En} {v : Int} {a b s : Int}
theorem w_bins {x0 x2 x3 x4 x5 x6 x7 x8 x9 : Option D} (ht : t ≤ 40) (hQ : ∀ r S', Sub S S' → S'[r]? = some (.lst (iL ((List.range (t + 3)).map fun j => ((ch t j : Nat) : Int)))) → Q (.ref r) S') :
    WP (dLc (iRng1 (dCons (dBin oAdd (dVar 1) (dC (.int 3))) dNil)) (gNm 10) tYes1 (dCall f_binomial (dCons (dVar 1) (dCons (dVar 10) dNil))) [10] [x0, some (.int (t : Int)), x2, x3, x4, x5, x6, x7, x8, x9, none] S) Q := by
  refine wp_ints (List.range (t + 3)) ((List.range (t + 3)).map fun j => .int ((j : Nat) : Int)) (fun _ => true) (fun j => ((ch t j : Nat) : Int)) (by rw [List.length_range]; omega) (by simp) ?_ (fun j a da S4 hj hd4 s4 => ?_) fun S4 s4 => ?_
  · rw [rngE (n := t + 3) (S := S) (env := [x0, some (.int (t : Int)), x2, x3, x4, x5, x6, x7, x8, x9, none]) (r := dCons (dBin oAdd (dVar 1) (dC (.int 3))) dNil) rfl (by omega)]
    refine WP_ok.mpr ⟨Sub.refl _, fun k S2 hk _ => ?_⟩
    rw [List.length_range] at hk
    by_cases h : k < t + 3
    · rw [jR_at h, List.getElem?_map, List.getElem?_range h]; rfl
    · have : k = t + 3 := by omega
      subst this
      rw [jR_end, List.getElem?_eq_none (by simp)]
  · rw [List.getElem?_map, hj] at hd4
    obtain rfl := Option.some.inj hd4
    have ha : a < t + 3 := List.mem_range.mp (List.mem_of_getElem? hj)
    rw [q_gnm]
    refine WP_ok.mpr (WP_ok.mpr ⟨rfl, Sub.refl _, fun _ => ?_⟩)
    simp only [wipe_cons, wipe_nil, List.set_cons_succ, List.set_cons_zero]
    exact st_call (xs := [.int (t : Int), .int (a : Int)]) rfl (w_binomial (by omega) (by omega) ⟨rfl, Sub.refl _⟩)
  · rw [filter_tt]
    exact hQ _ _ (s4.trans (Sub.push _ _)) push_at
theorem e_20 : dBin oMulA (dC (.int 2)) (dBin oPowI (dC (.int 10)) (dC (.int 20))) env S = .ok (.int 200000000000000000000) S := rfl
theorem e_20' : dBin oPowI (dC (.int 10)) (dC (.int 20)) env S = .ok (.int 100000000000000000000) S := rfl
theorem e_9 : dBin oPowI (dC (.int 10)) (dC (.int 9)) env S = .ok (.int 1000000000) S := rfl
theorem e_8 : dBin oMulA (dC (.int 5)) (dBin oPowI (dC (.int 10)) (dC (.int 8))) env S = .ok (.int 500000000) S := rfl
theorem st_rngP {r : DA} {QI : Itd → Store → Prop} (h : WP (r env S) fun xs S1 => ∃ n : Nat, xs = [.int (n : Int)] ∧ n ≤ 10000 ∧ QI (jR 0 n) S1) : WP (iRng1 r env S) QI := by
  obtain ⟨xs, S1, e, n, rfl, hn, q⟩ := h
  unfold iRng1
  rw [e, Res.bind_ok]
  dsimp only
  rw [if_pos (by omega), Int.toNat_natCast]
  exact WP_ok.mpr q
theorem w_reckoned (hL : Lot S i m) (hm : m + 1000 ≤ 2 ^ 40) (hQ : ∀ S', Lot S' i (m + 20) → Kp i S S' → S.length ≤ S'.length → Q (.bl true) S') : WP (f__law_reckoned [.ref i] S) Q := by
  have hi := hL.lt
  unfold f__law_reckoned
  rw [mkFn_wp]
  unfold b__law_reckoned n__law_reckoned
  simp only [List.map_cons, List.map_nil, List.length_cons, List.length_nil, List.cons_append, List.nil_append, List.replicate]
  refine st_asg2 ?_
  refine st_call (xs := [.ref i, .int 40]) rfl ?_
  refine w_pull hL (by decide) (by decide) (by omega) fun a S1 a0 a4 L1 k1 n1 => ?_
  obtain ⟨t, rfl⟩ := Int.eq_ofNat_of_zero_le a0
  refine st_lst1 (st_args (st_c (st_nil ⟨by simp, ?_⟩)))
  have p2 := Sub.push S1 (O.lst [D.int 1])
  have g2 : (S1 ++ [O.lst [D.int 1]])[S1.length]? = some (.lst (iL (prow 0))) := push_at
  have L2 := L1.sub p2
  have k2 := k1.trans p2.kp
  have n2 := sub_len p2
  have hr2 : S1.length ≤ S1.length := Nat.le_refl _
  generalize S1.length = r2 at g2 ⊢
  generalize S1 ++ [O.lst [D.int 1]] = S2 at *
  simp only [List.set_cons_succ, List.set_cons_zero]
  rw [q_seq, WP_bind]
  refine w_pascal (by omega) g2 fun r3 x3 S3 s3 g3 => ?_
  dsimp only
  refine st_if (st_cmp ?_)
  refine w_bins (by omega) fun r4 S4 s4 g4 => ?_
  refine st_bin (st_var rfl ?_)
  refine st_lst1 (st_args (st_c (st_args (st_c (st_nil ⟨by simp, ?_⟩)))))
  have p5 := Sub.push S4 (O.lst [D.int 0, D.int 0])
  have g5 : (S4 ++ [O.lst [D.int 0, D.int 0]])[S4.length]? = some (.lst (iL [0, 0])) := push_at
  have p6 := Sub.push (S4 ++ [O.lst [D.int 0, D.int 0]]) (O.lst (iL (prow t ++ [0, 0])))
  refine ⟨_, _, add_lst ((s4.trans p5) _ _ g3) g5 (by rw [prow_len]; simp; omega), _, _, ne_lst ((p5.trans p6) _ _ g4) push_at, by rw [prow_end, decide_eq_true rfl]; rfl, ?_⟩
  have s6 := s3.trans (s4.trans (p5.trans p6))
  have L6 := L2.sub s6
  have k6 := k2.trans s6.kp
  have n6 := sub_len s6
  generalize S4 ++ [O.lst [D.int 0, D.int 0]] ++ [O.lst (iL (prow t ++ [0, 0]))] = S6 at *
  refine st_asg2 ?_
  refine st_bin (st_callA (st_args (st_var rfl (st_args (st_ok e_20 (st_nil ?_))))))
  refine w_pull L6 (by decide) (by decide) (by omega) fun b S7 b0 b4 L7 k7 n7 => ?_
  refine st_ok e_20' ⟨_, _, o_sub, ?_⟩
  refine st_bin (st_callA (st_args (st_var rfl (st_args (st_ok e_9 (st_nil ?_))))))
  refine w_pull L7 (by decide) (by decide) (by omega) fun c S8 c0 c4 L8 k8 n8 => ?_
  refine st_ok e_8 ⟨_, _, o_sub, ?_⟩
  simp only [List.set_cons_succ, List.set_cons_zero]
  have hb : (b - 100000000000000000000).natAbs ≤ 10 ^ 20 := by omega
  have hc : (c - 500000000).natAbs ≤ 10 ^ 9 := by omega
  generalize b - 100000000000000000000 = b' at *
  generalize c - 500000000 = c' at *
  refine st_asg ?_
  refine st_callA (st_args (st_var rfl (st_args ?_)))
  refine st_ok (v := .ref S8.length) (S := S8 ++ [.lst (iL [1, 2, 6, 360, 997, 1000000000])]) rfl (st_nil ?_)
  have p9 := Sub.push S8 (O.lst (iL [1, 2, 6, 360, 997, 1000000000]))
  refine w_one_of (L8.sub p9) push_at (by decide) (by decide) (by omega) (by omega) fun j x S10 hx L10 k10 n10 => ?_
  have n9 := sub_len p9
  obtain ⟨s, s1, sB, rfl⟩ : ∃ s : Int, 0 < s ∧ s ≤ 1000000000 ∧ x = .int s := by
    have : x ∈ iL [1, 2, 6, 360, 997, 1000000000] := List.mem_of_getElem? hx
    unfold iL at this
    obtain ⟨s, hs, rfl⟩ := List.mem_map.mp this
    simp only [List.mem_cons, List.not_mem_nil, or_false] at hs
    exact ⟨s, by omega, by omega, rfl⟩
  have k10 := p9.kp.trans k10
  simp only [List.set_cons_succ, List.set_cons_zero]
  refine st_asg ?_
  have wl : ∀ {x0 x1 x2 x3 x4 x6 x7 x8 x9 x10 : Option D}, WP (dIf (dTstB (dBin oNe (dVar 5) (dC (.int 0)))) (dVar 5) (dUn oNeg (dC (.int 35))) [x0, x1, x2, x3, x4, some (.int c'), x6, x7, x8, x9, x10] S10) fun u S' => S' = S10 ∧ ∃ c : Int, u = .int c ∧ c ≠ 0 ∧ c.natAbs ≤ 10 ^ 9 := by
    intros
    rw [q_if, WP_bind]
    refine st_cmp ?_
    refine st_var rfl ?_
    refine st_c ⟨_, S10, o_neI, ?_⟩
    by_cases h : c' = 0
    · rw [decide_eq_true h]
      exact st_ok (v := .int (-35)) (S := S10) rfl ⟨rfl, _, rfl, by decide, by decide⟩
    · rw [decide_eq_false h]
      exact st_ok (v := .int c') (S := S10) rfl ⟨rfl, _, rfl, h, hc⟩
  refine WP_mono wl fun u S' ⟨e, c, eu, c1, c9⟩ => ?_
  subst e eu
  simp only [List.set_cons_succ, List.set_cons_zero]
  have m1 : mulOk b' s = true := mulW (a := 70) (b := 40) (by omega) (by omega) (by decide)
  have m2 : mulOk c s = true := mulW (a := 40) (b := 40) (by omega) (by omega) (by decide)
  have q1 : (b' * s).natAbs ≤ 10 ^ 50 := by
    rw [Int.natAbs_mul]
    have := Nat.mul_le_mul hb (show s.natAbs ≤ 10 ^ 9 by omega)
    exact Nat.le_trans this (by decide)
  have q2 : (c * s).natAbs ≤ 10 ^ 50 := by
    rw [Int.natAbs_mul]
    have := Nat.mul_le_mul c9 (show s.natAbs ≤ 10 ^ 9 by omega)
    exact Nat.le_trans this (by decide)
  have q3 : c * s ≠ 0 := Int.mul_ne_zero c1 (by omega)
  refine st_if (st_or (st_cmp ?_))
  refine st_callA (st_args (st_bin (st_var rfl (st_var rfl ⟨_, _, o_mul m1, ?_⟩))))
  refine st_args (st_bin (st_var rfl (st_var rfl ⟨_, _, o_mul m2, ?_⟩)))
  refine st_nil ?_
  refine w_fraction q3 q1 q2 ?_
  refine st_callA (st_args (st_var rfl (st_args (st_var rfl (st_nil ?_)))))
  refine w_lfraction c1 (by omega) (by omega) ?_
  rw [frac_mul s1]
  refine ⟨_, _, ne_tI, rfl, ?_⟩
  refine st_cmp ?_
  refine st_callA (st_args (st_c (st_args (st_var rfl (st_nil ?_)))))
  refine w_fraction c1 (by decide) (by omega) ?_
  rw [frac_zero c1]
  refine st_ok (v := .tup (iL [0, 1])) (S := S') rfl ⟨_, _, ne_tI, rfl, ?_⟩
  have L11 : Lot S' i (m + 4) := L10
  have k11 : Kp i S S' := k6.trans (k7.trans (k8.trans k10))
  have n11 : S.length ≤ S'.length := by omega
  refine st_asg ?_
  rw [q_callB, WP_bind]
  refine st_one ?_
  refine wp_lc ?_
  refine st_rngP (st_one (st_callA (st_args (st_var rfl (st_args (st_c (st_nil ?_)))))))
  refine w_pull L11 (by decide) (by decide) (by omega) fun u S12 u0 u5 L12 k12 n12 => ?_
  obtain ⟨u, rfl⟩ := Int.eq_ofNat_of_zero_le u0
  refine ⟨u, rfl, by omega, ?_⟩
  refine ⟨u, fun k acc S' => ∃ l : List Int, acc = iL l ∧ l.length = k ∧ (∀ x ∈ l, x.natAbs ≤ 10 ^ 12) ∧ Lot S' i (m + 5 + k) ∧ Kp i S S' ∧ S.length ≤ S'.length, by omega, ⟨[], rfl, rfl, fun _ h => (nomatch h), by simpa using L12, k11.trans k12, by omega⟩, fun k acc S2 hk ⟨sz, e1, e2, e3, e4, e5, e6⟩ => ⟨?_, _, jR_at hk, ?_⟩, fun acc S2 ⟨sz, e1, e2, e3, e4, e5, e6⟩ => ⟨jR_end, ?_⟩⟩
  · rw [e1, iL_len, e2]; exact sl_big (by omega)
  · rw [q_gnm]
    refine WP_ok.mpr (WP_ok.mpr ?_)
    rw [if_pos rfl]
    simp only [wipe_cons, wipe_nil, List.set_cons_succ, List.set_cons_zero]
    refine st_bin (st_var rfl (st_bin (st_callA (st_args (st_var rfl (st_args (st_c (st_nil ?_))))))))
    refine w_pull e4 (by decide) (by decide) (by omega) fun b S5 b0 b4 L5 k5 n5 => ?_
    refine st_c ⟨_, _, o_sub, ?_⟩
    have mm : mulOk s (b - 20) = true := mulW (a := 40) (b := 40) (by omega) (by omega) (by decide)
    refine ⟨_, _, o_mul mm, sz ++ [s * (b - 20)], by rw [e1]; unfold iL; simp, by rw [List.length_append, e2]; rfl, fun j hj => ?_, L5, e5.trans k5, by omega⟩
    rcases List.mem_append.mp hj with hj | hj
    · exact e3 j hj
    · rw [List.mem_singleton.mp hj, Int.natAbs_mul]
      have := Nat.mul_le_mul (show s.natAbs ≤ 10 ^ 9 by omega) (show (b - 20).natAbs ≤ 20 by omega)
      exact Nat.le_trans this (by decide)
  · have p3 := Sub.push S2 (O.lst acc)
    have g3 : (S2 ++ [O.lst acc])[S2.length]? = some (.lst acc) := push_at
    have n3 := sub_len p3
    have L3 := e4.sub p3
    have k3 := e5.trans p3.kp
    rw [q_b1, f_tuple, itemsR g3]
    generalize S2 ++ [O.lst acc] = S3 at *
    subst e1
    simp only [Option.map_some, q_ofO, WP_ok, List.set_cons_succ, List.set_cons_zero]
    refine st_ret (st_and (st_bin ?_))
    refine st_call (xs := [.tup (iL sz)]) rfl (w_common (by omega) (fun x hx => Nat.le_trans (e3 x hx) (by decide)) fun S4 s4 => ?_)
    refine st_call (xs := [.tup (iL sz)]) rfl (w_lgcdof (by omega) (fun x hx => Nat.le_trans (e3 x hx) (by decide)) ?_)
    refine ⟨_, _, o_eqI, by rw [decide_eq_true rfl], ?_⟩
    refine st_bin ?_
    refine st_call (xs := [.int ((1000 : Nat) : Int), .int (t : Int)]) rfl (w_binomial (by omega) (by omega) ?_)
    refine st_callA (st_args (st_c (st_args (st_bin (st_c (st_var rfl ⟨_, _, o_sub, ?_⟩))))))
    refine st_nil ?_
    rw [show (1000 : Int) - (t : Int) = ((1000 - t : Nat) : Int) by omega]
    refine w_binomial (n := 1000) (by omega) (by omega) ?_
    refine ⟨_, _, o_eqI, ?_⟩
    rw [ch_sym (m := 1000) (a := t) (b := 1000 - t) (by omega), decide_eq_true rfl]
    have n4 := sub_len s4
    exact WP_ok.mpr (hQ S4 ((L3.sub s4).mono (by omega)) (k3.trans s4.kp) (by omega))
end
end Zk01

set_option exponentiation.threshold 3000
namespace Zk01
open PySem PySem.Spec Z
def al : Str := "abcdefghijklmnopqrstuvwxyz"
def nm (z : Str) : Bool := (decide (0 < z.length) && decide (z.length ≤ 8)) && z.cps.toList.all fun c => decide (c ∈ al.cps.toList)
def pl (z : Str) : Bool := z.cps.toList.all fun c => decide (c ∈ al.cps.toList)
def sgn (c : Nat) : D := .str ⟨#[c]⟩
section
variable {S S' S0 : Store} {x y d : D} {ds es acc : List D} {l K ms : List Int} {Q : D → Store → Prop} {QF : Fl → Store → Prop} {n k q r p i m t c : Nat} {env : En} {v : Int} {a b s : Int} {z : Str}
theorem wp_D {α : Type} {it : DI} {g : DG} {t : DT} {b : DE} {own : List Nat} {env : En} {S : Store} {Q : D → Store → Prop} (l : List α) (ds : List D) (p : α → Bool) (f : α → D) (hl : l.length ≤ 1000000) (hd : ds.length = l.length)
    (hi : WP (it env S) fun J S1 => Sub S S1 ∧ (∀ k S2, k ≤ l.length → Sub S1 S2 → J k S2 = some ds[k]?))
    (hb : ∀ (k : Nat) (a : α) (d : D) (S1 : Store), l[k]? = some a → ds[k]? = some d → Sub S S1 → WP (g d (wipeE env own) S1) fun e' S2 => WP (t e' S2) fun c S3 => c = p a ∧ Sub S1 S3 ∧ (p a = true → WP (b e' S3) fun y S4 => y = f a ∧ Sub S3 S4))
    (hQ : ∀ S1, Sub S S1 → Q (.ref S1.length) (S1 ++ [.lst ((l.filter p).map f)])) : WP (dLc it g t b own env S) Q :=
  wp_rel (fun _ d (i : D) => d = i) (fun _ _ _ _ h _ => h) l ds p f hl hd hi hb fun S1 ys s1 h2 => by
    have e : ys = (l.filter p).map f := by
      refine List.ext_getElem h2.1 fun k k1 k2 => ?_
      obtain ⟨d', e', r⟩ := h2.get k2
      rw [List.getElem?_eq_getElem k1] at e'
      cases e'
      exact r
    rw [e]
    exact hQ S1 s1
theorem in_s : oIn (sgn c) (.str z) S = some (.bl (decide (c ∈ z.cps.toList)), S) := rfl
theorem nin_s : oNotIn (sgn c) (.str z) S = some (.bl (!decide (c ∈ z.cps.toList)), S) := rfl
theorem jS_at : jS z k S = some ((z.cps.toList.map sgn)[k]?) := by
  unfold jS sgn
  rw [List.getElem?_map]
  by_cases h : k < z.cps.size
  · rw [dif_pos h, List.getElem?_eq_getElem (by rw [Array.length_toList]; exact h)]; rfl
  · rw [dif_neg h, List.getElem?_eq_none (by rw [Array.length_toList]; omega)]; rfl
theorem len_s (h : z.length ≤ 1000) : fLen (.str z) S = some (.int (z.length : Nat), S) := if_pos (by have : sl = 16777216 := rfl; omega)
theorem blsOf_map : ∀ bs : List Bool, blsOf (bs.map D.bl) = some bs
  | [] => rfl
  | b :: bs => by
    have := blsOf_map bs
    simp [blsOf, this]
theorem st_ifr {t : DT} {v : D} {rest : DS} (h : WP (t env S) fun c S1 => (c = true → QF (.rt v) S1) ∧ (c = false → WP (rest env S1) QF)) : WP (sSeq (sIf t (sRet (dC v)) sNext) rest env S) QF := by
  rw [q_seq, WP_bind, q_sif, WP_bind]
  refine WP_mono h fun c S1 ⟨h1, h2⟩ => ?_
  cases c with
  | true =>
    rw [if_pos rfl, q_ret, q_c]
    exact WP_ok.mpr (WP_ok.mpr (h1 rfl))
  | false =>
    rw [if_neg (by decide)]
    exact WP_ok.mpr (h2 rfl)
theorem chn {A B C : DE} {i j k : Int} (h1 : A env S = .ok (.int i) S) (h2 : B env S = .ok (.int j) S) (h3 : C env S = .ok (.int k) S) : dChain oLtI oLeI A B C env S = .ok (.bl (decide (i < j) && decide (j ≤ k))) S := by
  rw [q_chain, h1, Res.bind_ok, h2, Res.bind_ok, o_lt, q_ofO, Res.bind_ok]
  by_cases h : i < j
  · rw [decide_eq_true h]
    dsimp only
    rw [h3, Res.bind_ok, o_le, q_ofO, Bool.true_and]
  · rw [decide_eq_false h]
    rfl
theorem chn2 {A B C : DE} {i j k : Int} (h1 : A env S = .ok (.int i) S) (h2 : B env S = .ok (.int j) S) (h3 : C env S = .ok (.int k) S) : dChain oLeI oLeI A B C env S = .ok (.bl (decide (i ≤ j) && decide (j ≤ k))) S := by
  rw [q_chain, h1, Res.bind_ok, h2, Res.bind_ok, o_le, q_ofO, Res.bind_ok]
  by_cases h : i ≤ j
  · rw [decide_eq_true h]
    dsimp only
    rw [h3, Res.bind_ok, o_le, q_ofO, Bool.true_and]
  · rw [decide_eq_false h]
    rfl
theorem w_isname (hz : z.length ≤ 1000) (hQ : ∀ S', Sub S S' → Q (.bl (nm z)) S') : WP (f_is_name [.str z] S) Q := by
  unfold f_is_name
  rw [mkFn_wp]
  unfold b_is_name n_is_name
  simp only [List.map_cons, List.map_nil, List.length_cons, List.length_nil, List.cons_append, List.nil_append, List.replicate]
  refine st_ifr (st_or (st_not (st_tst (st_ok (v := .bl true) (S := S) rfl ⟨true, rfl, rfl, ?_⟩))))
  refine st_not ?_
  have el : dCallB (b1 fLen) (dCons (dVar 0) dNil) [some (.str z), none] S = .ok (.int (z.length : Nat)) S := by simp only [q_callB, q_cons, q_nil, q_var, List.getElem?_cons_zero, Res.bind_ok, q_b1, len_s hz, q_ofO]
  rw [q_tstB, chn (i := 0) (k := 8) rfl el rfl, Res.bind_ok]
  have eb : (decide ((0 : Int) < (z.length : Int)) && decide ((z.length : Int) ≤ 8)) = (decide (0 < z.length) && decide (z.length ≤ 8)) := by
    congr 1 <;> exact decide_eq_decide.mpr (by omega)
  rw [eb]
  refine WP_ok.mpr ⟨fun h => ?_, fun h => ?_⟩
  · have h' : (decide (0 < z.length) && decide (z.length ≤ 8)) = false := (Bool.not_eq_true' _).mp h
    have := hQ S (Sub.refl _)
    unfold nm at this
    rw [h', Bool.false_and] at this
    exact WP_ok.mpr this
  · have h' : (decide (0 < z.length) && decide (z.length ≤ 8)) = true := (Bool.not_eq_false' _).mp h
    refine st_ret ?_
    rw [q_callB, WP_bind]
    refine st_args ?_
    refine wp_D z.cps.toList (z.cps.toList.map sgn) (fun _ => true) (fun c => .bl (decide (c ∈ al.cps.toList))) (by rw [Array.length_toList]; show z.length ≤ _; omega) (by simp) ?_ (fun j a da S4 hj hd4 s4 => ?_) fun S4 s4 => ?_
    · exact WP_ok.mpr ⟨Sub.refl _, fun k S2 _ _ => jS_at⟩
    · rw [List.getElem?_map, hj] at hd4
      obtain rfl := Option.some.inj hd4
      rw [q_gnm]
      refine WP_ok.mpr (WP_ok.mpr ⟨rfl, Sub.refl _, fun _ => ?_⟩)
      simp only [wipe_cons, wipe_nil, List.set_cons_succ, List.set_cons_zero]
      exact st_bin (st_var rfl (st_c ⟨_, _, in_s, rfl, Sub.refl _⟩))
    · rw [filter_tt]
      have g : (S4 ++ [O.lst (z.cps.toList.map fun c => D.bl (decide (c ∈ al.cps.toList)))])[S4.length]? = some (.lst (z.cps.toList.map fun c => D.bl (decide (c ∈ al.cps.toList)))) := push_at
      refine st_nil ?_
      have ea : fAll (.ref S4.length) (S4 ++ [O.lst (z.cps.toList.map fun c => D.bl (decide (c ∈ al.cps.toList)))]) = some (.bl (nm z), S4 ++ [O.lst (z.cps.toList.map fun c => D.bl (decide (c ∈ al.cps.toList)))]) := by
        have e : z.cps.toList.map (fun c => D.bl (decide (c ∈ al.cps.toList))) = (z.cps.toList.map fun c => decide (c ∈ al.cps.toList)).map D.bl := by rw [List.map_map]; rfl
        unfold fAll
        rw [itemsLR g, Option.bind_some, e, blsOf_map, Option.map_some]
        unfold nm
        rw [h', Bool.true_and, List.all_map]; rfl
      rw [q_b1, ea, q_ofO]
      exact WP_ok.mpr (WP_ok.mpr (hQ _ (s4.trans (Sub.push _ _))))
theorem seqO_map {α β : Type} {f : α → Option β} {g : α → β} : ∀ l : List α, (∀ a ∈ l, f a = some (g a)) → seqO (l.map f) = some (l.map g)
  | [], _ => rfl
  | a :: l, h => by
    rw [List.map_cons, h a List.mem_cons_self]
    show (seqO (l.map f)).map (g a :: ·) = _
    rw [seqO_map l fun b hb => h b (List.mem_cons_of_mem _ hb)]; rfl
theorem py_sgn {k : Nat} (h : c < 0x110000) : toPy S k (sgn c) = some (.str ⟨#[c]⟩) := by
  have : PyData.strOk ⟨#[c]⟩ = true := by unfold PyData.strOk; simp [h]
  unfold sgn
  cases k <;> exact if_pos this
theorem eq_sgns {L : List Nat} (h : S[r]? = some (.lst (L.map sgn))) (h' : S[q]? = some (.lst [])) (hL : ∀ c ∈ L, c < 0x110000) : oEq (.ref r) (.ref q) S = some (.bl (decide (L = [])), S) := by
  have e1 : toPy S 60 (.ref r) = some (.list (L.map fun c => PyData.str ⟨#[c]⟩)) := by
    rw [toPy, h]
    show (seqO ((L.map sgn).map (toPy S 59))).map PyData.list = _
    rw [List.map_map, seqO_map (f := toPy S 59 ∘ sgn) (g := fun c => PyData.str ⟨#[c]⟩) L fun c hc => py_sgn (hL c hc)]; rfl
  have e2 : toPy S 60 (.ref q) = some (.list []) := by rw [toPy, h']; rfl
  rw [o_eqP e1 e2]
  cases L with
  | nil => rfl
  | cons c L => rfl
theorem w_plain {x0 x1 x2 x4 x5 x6 : Option D} (hz : z.length ≤ 1000) (ho : ∀ c ∈ z.cps.toList, c < 0x110000) (hQ : ∀ S', Sub S S' → Q (.bl (pl z)) S') :
    WP (dBin oEq (dLc (iStrD (dVar 3)) (gNm 7) (dTstB (dBin oNotIn (dVar 7) (dC (.str "abcdefghijklmnopqrstuvwxyz")))) (dVar 7) [7]) (dLst dNil) [x0, x1, x2, some (.str z), x4, x5, x6, none] S) Q := by
  refine st_bin ?_
  refine wp_D z.cps.toList (z.cps.toList.map sgn) (fun c => !decide (c ∈ al.cps.toList)) sgn (by rw [Array.length_toList]; show z.length ≤ _; omega) (by simp) ?_ (fun j a da S4 hj hd4 s4 => ?_) fun S4 s4 => ?_
  · exact WP_ok.mpr ⟨Sub.refl _, fun k S2 _ _ => jS_at⟩
  · rw [List.getElem?_map, hj] at hd4
    obtain rfl := Option.some.inj hd4
    rw [q_gnm]
    refine WP_ok.mpr ?_
    simp only [wipe_cons, wipe_nil, List.set_cons_succ, List.set_cons_zero]
    refine st_cmp (st_var rfl (st_c ⟨_, _, nin_s, ?_⟩))
    exact ⟨rfl, Sub.refl _, fun _ => st_var rfl ⟨rfl, Sub.refl _⟩⟩
  · refine st_lst1 (st_nil ⟨by simp, ?_⟩)
    have p5 := Sub.push S4 (O.lst ((z.cps.toList.filter fun c => !decide (c ∈ al.cps.toList)).map sgn))
    have p6 := Sub.push (S4 ++ [O.lst ((z.cps.toList.filter fun c => !decide (c ∈ al.cps.toList)).map sgn)]) (O.lst [])
    refine ⟨_, _, eq_sgns (p6 _ _ push_at) push_at (fun c hc => ho c (List.mem_filter.mp hc).1), ?_⟩
    have e : decide ((z.cps.toList.filter fun c => !decide (c ∈ al.cps.toList)) = []) = pl z := by
      unfold pl
      rw [Bool.eq_iff_iff, decide_eq_true_eq, List.filter_eq_nil_iff, List.all_eq_true]
      simp
    rw [e]
    exact hQ _ (s4.trans (p5.trans p6))
end
end Zk01

set_option exponentiation.threshold 3000
namespace Zk01
open PySem PySem.Spec Z
section
variable {S S' S0 : Store} {x y d : D} {ds es acc : List D} {l K ms : List Int} {Q : D → Store → Prop} {QF : Fl → Store → Prop} {n k q r p i m t c : Nat} {env : En} {v : Int} {a b s : Int} {z : Str}
def Ev (F : Fn) (x : D) (S : Store) : Prop := WP (F [x] S) fun u S' => u = .bl false ∧ Sub S S'
theorem ev_r {F : Fn} (h : F [x] S = .ok (.bl false) S) : Ev F x S := by unfold Ev; rw [h]; exact WP_ok.mpr ⟨rfl, Sub.refl _⟩
theorem ev_n (h : nm z = false) (hz : z.length ≤ 1000) : Ev f_is_name (.str z) S := w_isname hz fun S' s => ⟨by rw [h], s⟩
theorem isi_of {t : Ty} (h : tyD S x = some t) {w : String} {u : Ty} (hu : ([Ty.bl, .int, .str, .tup, .lst, .dic].find? fun u => u.name = w) = some u) : bIsi [x, .ty w] S = some (.bl (t.sub u), S) := by
  show (tyD S x).bind _ = _
  rw [h, Option.bind_some, hu]; rfl
theorem pr_ty {t : Ty} (h : tyD S x = some t) (ht : t = .lst ∨ t = .dic) : f_is_prime [x] S = .ok (.bl false) S ∧ f_is_name [x] S = .ok (.bl false) S := by
  have e1 : bIsi [x, .ty "int"] S = some (.bl false, S) := by
    rw [isi_of h (u := .int) (by rfl)]
    rcases ht with rfl | rfl <;> rfl
  have e2 : bIsi [x, .ty "str"] S = some (.bl false, S) := by
    rw [isi_of h (u := .str) (by rfl)]
    rcases ht with rfl | rfl <;> rfl
  have w : f_is_whole [x] S = .ok (.bl false) S := by
    have : WP (f_is_whole [x] S) fun u S1 => u = .bl false ∧ S1 = S := by
      unfold f_is_whole
      rw [mkFn_wp]
      unfold b_is_whole n_is_whole
      simp only [List.map_cons, List.map_nil, List.length_cons, List.length_nil, List.cons_append, List.nil_append, List.replicate]
      refine st_ret ?_
      rw [q_andV, WP_bind, q_callB]
      simp only [q_cons, q_nil, q_var, q_c, List.getElem?_cons_zero, Res.bind_ok, e1, q_ofO, WP_ok]
      exact WP_ok.mpr (WP_ok.mpr ⟨rfl, rfl⟩)
    obtain ⟨d, S1, e, rfl, rfl⟩ := this
    exact e
  refine ⟨?_, ?_⟩
  · have : WP (f_is_prime [x] S) fun u S1 => u = .bl false ∧ S1 = S := by
      unfold f_is_prime
      rw [mkFn_wp]
      unfold b_is_prime n_is_prime
      simp only [List.map_cons, List.map_nil, List.length_cons, List.length_nil, List.cons_append, List.nil_append, List.replicate]
      refine st_ret ?_
      rw [q_andV, WP_bind]
      refine st_call (xs := [x]) rfl ?_
      rw [w]
      exact WP_ok.mpr (WP_ok.mpr (WP_ok.mpr ⟨rfl, rfl⟩))
    obtain ⟨d, S1, e, rfl, rfl⟩ := this
    exact e
  · have : WP (f_is_name [x] S) fun u S1 => u = .bl false ∧ S1 = S := by
      unfold f_is_name
      rw [mkFn_wp]
      unfold b_is_name n_is_name
      simp only [List.map_cons, List.map_nil, List.length_cons, List.length_nil, List.cons_append, List.nil_append, List.replicate]
      refine st_ifr ?_
      rw [q_or2, WP_bind]
      refine st_not (st_tst (st_ok (v := .bl false) (S := S) ?_ ⟨false, rfl, ?_⟩))
      · simp only [q_callB, q_cons, q_nil, q_var, q_c, List.getElem?_cons_zero, Res.bind_ok, e2, q_ofO]
      · exact WP_ok.mpr ⟨fun _ => WP_ok.mpr ⟨rfl, rfl⟩, fun h => nomatch h⟩
    obtain ⟨d, S1, e, rfl, rfl⟩ := this
    exact e
theorem odd_all (ha : S[q]? = some (.lst [.int 5])) (hb : S[r]? = some (.dK [])) (hx : x ∈ [D.non, .bl true, .str "", .ref q, .tup [.int 5], .ref r, .str "Ba", .int (-5), .int 0, .int 1, .int 1000000007, .int 1000000000000000000000000000000000000000000000000000000000000]) :
    f_is_prime [x] S = .ok (.bl false) S ∧ Ev f_is_name x S := by
  simp only [List.mem_cons, List.not_mem_nil, or_false] at hx
  rcases hx with rfl | rfl | rfl | rfl | rfl | rfl | rfl | rfl | rfl | rfl | rfl | rfl
  · exact ⟨rfl, ev_r rfl⟩
  · exact ⟨rfl, ev_r rfl⟩
  · exact ⟨rfl, ev_n (by decide +kernel) (by decide +kernel)⟩
  · have := pr_ty (S := S) (x := .ref q) (t := .lst) (by simp only [tyD, ha]) (.inl rfl)
    exact ⟨this.1, ev_r this.2⟩
  · exact ⟨rfl, ev_r rfl⟩
  · have := pr_ty (S := S) (x := .ref r) (t := .dic) (by simp only [tyD, hb]) (.inr rfl)
    exact ⟨this.1, ev_r this.2⟩
  · exact ⟨rfl, ev_n (by decide +kernel) (by decide +kernel)⟩
  · exact ⟨rfl, ev_r rfl⟩
  · exact ⟨rfl, ev_r rfl⟩
  · exact ⟨rfl, ev_r rfl⟩
  · exact ⟨rfl, ev_r rfl⟩
  · exact ⟨rfl, ev_r rfl⟩
end
end Zk01

set_option exponentiation.threshold 3000
namespace Zk01
open PySem PySem.Spec Z
section
variable {S S' S0 : Store} {x y d : D} {ds es acc : List D} {l K ms : List Int} {Q : D → Store → Prop} {QF : Fl → Store → Prop} {n k q r p i m t c : Nat} {env : En} {v : Int} {a b s : Int} {z sg : Str}
theorem okc_app {x y : Str} (h : PyData.strOk x = true) (h' : PyData.strOk y = true) : PyData.strOk (x ++ y) = true := by
  unfold PyData.strOk at *
  rw [Str.cps_append, Array.all_append, h, h']; rfl
theorem okc_join {x : Str} (hx : PyData.strOk x = true) : ∀ l : List Str, (∀ y ∈ l, PyData.strOk y = true) → PyData.strOk (Str.join x l) = true
  | [], _ => by show PyData.strOk Str.empty = true; decide +kernel
  | [a], h => h a List.mem_cons_self
  | a :: b :: r, h => by
    show PyData.strOk (a ++ x ++ Str.join x (b :: r)) = true
    exact okc_app (okc_app (h a List.mem_cons_self) hx) (okc_join hx (b :: r) fun y hy => h y (List.mem_cons_of_mem _ hy))
theorem strs_map' : ∀ l : List Str, strsOf (l.map D.str) = some l
  | [] => rfl
  | a :: l => by
    show (strsOf (l.map D.str)).map (a :: ·) = _
    rw [strs_map' l]; rfl
theorem join_le' : ∀ l : List Str, (∀ y ∈ l, y.length = 1) → (Str.join ("" : Str) l).length = l.length
  | [], _ => rfl
  | [a], h => h a List.mem_cons_self
  | a :: b :: r, h => by
    show (a ++ ("" : Str) ++ Str.join "" (b :: r)).length = _
    rw [Str.length_append, Str.length_append, join_le' (b :: r) fun y hy => h y (List.mem_cons_of_mem _ hy), h a List.mem_cons_self]
    show 1 + 0 + (b :: r).length = (b :: r).length + 1
    omega
theorem sum_ones : ∀ l : List Str, (∀ y ∈ l, y.length = 1) → (l.map (·.length)).sum = l.length
  | [], _ => rfl
  | a :: l, h => by
    rw [List.map_cons, List.sum_cons, sum_ones l fun y hy => h y (List.mem_cons_of_mem _ hy), h a List.mem_cons_self, List.length_cons]
    omega
theorem ix_s (h : k < sg.length) (hl : sg.length ≤ 100) : oIx (.str sg) (.int (k : Int)) S = some (sgn (sg.cps.toList[k]'(by rw [Array.length_toList]; exact h)), S) := by
  have e : L2.atI sg.cps.toList (k : Int) = some (sg.cps.toList[k]'(by rw [Array.length_toList]; exact h)) := by
    unfold L2.atI L2.ixN
    have hk : k < sg.cps.toList.length := by rw [Array.length_toList]; exact h
    rw [if_pos (by omega), if_pos (by omega)]
    show sg.cps.toList[_]? = _
    simp [hk]
  show (if sg.length ≤ sl then (L2.atI sg.cps.toList (k : Int)).map fun c => (D.str ⟨#[c]⟩, S) else none) = _
  rw [if_pos (by have : sl = 16777216 := rfl; omega), e]; rfl
theorem w_word {x1 x3 x4 x5 : Option D} (hL : Lot S i m) (hm : m + 100 ≤ 2 ^ 40) (h1 : 0 < sg.length) (h2 : sg.length ≤ 100) (ho : PyData.strOk sg = true)
    (hQ : ∀ z S', z.length ≤ 100 → PyData.strOk z = true → Lot S' i (m + 20) → Kp i S S' → S.length ≤ S'.length → Q (.str z) S') :
    WP (dMethS mJoin (dC (.str "")) (dLc (iRng1 (dCons (dCall f__law_pull (dCons (dVar 0) (dCons (dC (.int 11)) dNil))) dNil)) (gNm 6) tYes1 (dBin oIx (dVar 2) (dCall f__law_pull (dCons (dVar 0) (dCons (dCallB (b1 fLen) (dCons (dVar 2) dNil)) dNil)))) [6]) [some (.ref i), x1, some (.str sg), x3, x4, x5, none, none] S) Q := by
  rw [q_meS, q_c, Res.bind_ok, if_pos (show isS (.str ("" : Str)) = true from rfl), WP_bind]
  refine wp_lc ?_
  refine st_rngP (st_one (st_callA (st_args (st_var rfl (st_args (st_c (st_nil ?_)))))))
  refine w_pull hL (by decide) (by decide) (by omega) fun u S1 u0 u5 L1 k1 n1 => ?_
  obtain ⟨u, rfl⟩ := Int.eq_ofNat_of_zero_le u0
  refine ⟨u, rfl, by omega, ?_⟩
  refine ⟨u, fun k acc S' => ∃ l : List Str, acc = l.map D.str ∧ l.length = k ∧ (∀ y ∈ l, y.length = 1) ∧ (∀ y ∈ l, PyData.strOk y = true) ∧ Lot S' i (m + 1 + k) ∧ Kp i S S' ∧ S.length ≤ S'.length, by omega, ⟨[], rfl, rfl, fun _ h => (nomatch h), fun _ h => (nomatch h), by simpa using L1, k1, by omega⟩, fun k acc S2 hk ⟨sz, e1, e2, e3, e3', e4, e5, e6⟩ => ⟨?_, _, jR_at hk, ?_⟩, fun acc S2 ⟨sz, e1, e2, e3, e3', e4, e5, e6⟩ => ⟨jR_end, ?_⟩⟩
  · rw [e1, List.length_map, e2]; exact sl_big (by omega)
  · rw [q_gnm]
    refine WP_ok.mpr (WP_ok.mpr ?_)
    rw [if_pos rfl]
    simp only [wipe_cons, wipe_nil, List.set_cons_succ, List.set_cons_zero]
    have el : dCallB (b1 fLen) (dCons (dVar 2) dNil) [some (.ref i), x1, some (.str sg), x3, x4, x5, some (.int (k : Int)), none] S2 = .ok (.int (sg.length : Nat)) S2 := by
      simp only [q_callB, q_cons, q_nil, q_var, List.getElem?_cons_zero, List.getElem?_cons_succ, Res.bind_ok, q_b1, len_s (show sg.length ≤ 1000 by omega), q_ofO]
    refine st_bin (st_var rfl (st_callA (st_args (st_var rfl (st_args (st_ok el (st_nil ?_)))))))
    refine w_pull e4 (by omega) (by omega) (by omega) fun b S5 b0 b4 L5 k5 n5 => ?_
    obtain ⟨b, rfl⟩ := Int.eq_ofNat_of_zero_le b0
    have hb : b < sg.length := by omega
    have hb' : b < sg.cps.toList.length := by rw [Array.length_toList]; exact hb
    refine ⟨_, _, ix_s hb h2, sz ++ [⟨#[sg.cps.toList[b]'hb']⟩], by rw [e1, List.map_append]; rfl, by rw [List.length_append, e2]; rfl, fun y hy => ?_, fun y hy => ?_, L5, e5.trans k5, by omega⟩
    · rcases List.mem_append.mp hy with hy | hy
      · exact e3 y hy
      · rw [List.mem_singleton.mp hy]; rfl
    · rcases List.mem_append.mp hy with hy | hy
      · exact e3' y hy
      · rw [List.mem_singleton.mp hy]
        unfold PyData.strOk at ho ⊢
        rw [← Array.all_toList, List.all_eq_true] at ho
        have := ho _ (List.getElem_mem hb')
        simpa using this
  · have p3 := Sub.push S2 (O.lst acc)
    have g3 : (S2 ++ [O.lst acc])[S2.length]? = some (.lst acc) := push_at
    have n3 := sub_len p3
    have L3 := e4.sub p3
    have k3 := e5.trans p3.kp
    generalize S2 ++ [O.lst acc] = S3 at *
    generalize S2.length = r3 at *
    subst e1
    have jl := join_le' sz e3
    have js := sum_ones sz e3
    have ej : mJoin (.str ("" : Str)) [.ref r3] S3 = some (.str (Str.join ("" : Str) sz), S3) := by
      have e : Txt.join ("" : Str) sz = Str.join ("" : Str) sz := StrLaws.glued_eq_join _ _
      simp only [mJoin, itemsR g3, Option.bind_some, strs_map']
      rw [if_pos, e]
      rw [js]
      show sz.length + sz.length * 0 ≤ _
      omega
    rw [ej, q_ofO]
    exact WP_ok.mpr (hQ _ S3 (by omega) (okc_join (by decide +kernel) sz e3') (L3.mono (by omega)) k3 (by omega))
end
end Zk01

set_option exponentiation.threshold 3000
namespace Zk01
open PySem PySem.Spec Z
section
variable {S S' S0 : Store} {x y d : D} {ds es acc : List D} {l K ms : List Int} {Q : D → Store → Prop} {QF : Fl → Store → Prop} {n k q r p i m t c : Nat} {env : En} {v : Int} {a b s : Int} {z sg : Str}
theorem ne_blE {a b : Bool} (h : a = b) : oNe (.bl a) (.bl b) S = some (.bl false, S) := by subst h; exact o_neS rfl rfl
theorem e_60 : dBin oPowI (dC (.int 10)) (dC (.int 60)) env S = .ok (.int 1000000000000000000000000000000000000000000000000000000000000) S := rfl
theorem e_97 : dBin oAdd (dBin oPowI (dC (.int 10)) (dC (.int 9))) (dC (.int 7)) env S = .ok (.int 1000000007) S := rfl
theorem nm_pl : nm z = (pl z && (decide ((1 : Int) ≤ (z.length : Int)) && decide ((z.length : Int) ≤ 8))) := by
  unfold nm pl
  rw [Bool.and_comm]
  congr 1
  congr 1 <;> exact decide_eq_decide.mpr (by omega)
theorem w_judged (hL : Lot S i m) (hm : m + 1000 ≤ 2 ^ 40) (hQ : ∀ S', Lot S' i (m + 30) → Kp i S S' → S.length ≤ S'.length → Q (.bl true) S') : WP (f__law_judged [.ref i] S) Q := by
  have hi := hL.lt
  unfold f__law_judged
  rw [mkFn_wp]
  unfold b__law_judged n__law_judged
  simp only [List.map_cons, List.map_nil, List.length_cons, List.length_nil, List.cons_append, List.nil_append, List.replicate]
  refine st_asg (st_bin (st_bin (st_ok e_60 (st_c ⟨_, _, o_sub, ?_⟩))))
  refine st_callA (st_args (st_var rfl (st_args (st_c (st_nil ?_)))))
  refine w_pull hL (by decide) (by decide) (by omega) fun a S1 a0 a4 L1 k1 n1 => ?_
  refine ⟨_, _, o_add, ?_⟩
  simp only [List.set_cons_succ, List.set_cons_zero]
  generalize hw : (1000000000000000000000000000000000000000000000000000000000000 : Int) - 2 + a = w
  have i1 : isI w = decide (w < 1000000000000000000000000000000000000000000000000000000000000) := by
    unfold isI
    rw [decide_eq_true (by omega), Bool.true_and]
  have i2 : isI (-w) = decide (w < 1000000000000000000000000000000000000000000000000000000000000) := by
    unfold isI
    rw [decide_eq_true (show -w < _ by omega), Bool.and_true]
    exact decide_eq_decide.mpr (by omega)
  refine st_if (st_or (st_cmp ?_))
  refine st_callA (st_args (st_var rfl (st_nil ?_)))
  rw [e_integer]
  refine WP_ok.mpr ?_
  refine st_bin (st_var rfl (st_ok e_60 ⟨_, _, o_lt, _, _, ne_blE i1, rfl, ?_⟩))
  refine st_or (st_cmp ?_)
  refine st_callA (st_args (st_ok (v := .int (-w)) (S := S1) rfl (st_nil ?_)))
  rw [e_integer]
  refine WP_ok.mpr ?_
  refine st_bin (st_var rfl (st_ok e_60 ⟨_, _, o_lt, _, _, ne_blE i2, rfl, ?_⟩))
  refine st_tst (st_ok (v := .bl false) (S := S1) rfl ⟨false, rfl, rfl, ?_⟩)
  refine st_asg ?_
  have ws : ∀ {x1 x2 x3 x4 x5 x6 x7 : Option D}, WP (dIf (dTstB (dBin oEq (dCall f__law_pull (dCons (dVar 0) (dCons (dC (.int 2)) dNil))) (dC (.int 0)))) (dC (.str "amz")) (dC (.str "amzB2 -")) [some (.ref i), x1, x2, x3, x4, x5, x6, x7] S1) fun u S' => Lot S' i (m + 2) ∧ Kp i S1 S' ∧ S1.length = S'.length ∧ ∃ sg : Str, u = .str sg ∧ 0 < sg.length ∧ sg.length ≤ 100 ∧ PyData.strOk sg = true := by
    intros
    rw [q_if, WP_bind]
    refine st_cmp ?_
    refine st_callA (st_args (st_var rfl (st_args (st_c (st_nil ?_)))))
    refine w_pull L1 (by decide) (by decide) (by omega) fun b S2 b0 b4 L2 k2 n2 => ?_
    refine st_c ⟨_, _, o_eqI, ?_⟩
    by_cases h : b = 0
    · rw [decide_eq_true h, if_pos rfl]
      exact st_c ⟨L2, k2, n2, _, rfl, by decide +kernel, by decide +kernel, by decide +kernel⟩
    · rw [decide_eq_false h, if_neg (by decide)]
      exact st_c ⟨L2, k2, n2, _, rfl, by decide +kernel, by decide +kernel, by decide +kernel⟩
  refine WP_mono ws fun u S2 ⟨L2, k2, n2, sg, eu, g1, g2, g3⟩ => ?_
  subst eu
  simp only [List.set_cons_succ, List.set_cons_zero]
  refine st_asg ?_
  refine w_word L2 (by omega) g1 g2 g3 fun z S3 z1 z2 L3 k3 n3 => ?_
  simp only [List.set_cons_succ, List.set_cons_zero]
  have z3 : ∀ c ∈ z.cps.toList, c < 0x110000 := fun c hc => by
    unfold PyData.strOk at z2
    rw [← Array.all_toList, List.all_eq_true] at z2
    exact of_decide_eq_true (z2 c hc)
  refine st_asg ?_
  refine w_plain (by omega) z3 fun S4 s4 => ?_
  simp only [List.set_cons_succ, List.set_cons_zero]
  refine st_if (st_cmp ?_)
  refine st_callA (st_args (st_var rfl (st_nil ?_)))
  refine w_isname (by omega) fun S5 s5 => ?_
  have wn : ∀ {x0 x1 x2 x5 x6 x7 : Option D}, (dAndV (dVar 4) (dChain oLeI oLeI (dC (.int 1)) (dCallB (b1 fLen) (dCons (dVar 3) dNil)) (dC (.int 8)))) [x0, x1, x2, some (.str z), some (.bl (pl z)), x5, x6, x7] S5 = .ok (.bl (nm z)) S5 := by
    intros
    rw [q_andV, q_var]
    simp only [List.getElem?_cons_zero, List.getElem?_cons_succ, Res.bind_ok, ofB_bl]
    rw [nm_pl]
    cases pl z with
    | false => rfl
    | true =>
      rw [if_pos rfl, Bool.true_and]
      exact chn2 (i := 1) (k := 8) rfl (by simp only [q_callB, q_cons, q_nil, q_var, List.getElem?_cons_zero, List.getElem?_cons_succ, Res.bind_ok, q_b1, len_s (show z.length ≤ 1000 by omega), q_ofO]) rfl
  refine st_ok wn ⟨_, _, ne_blE rfl, rfl, ?_⟩
  have s45 := s4.trans s5
  have L5 := L3.sub s45
  have k5 := k1.trans (k2.trans (k3.trans s45.kp))
  have n5 := sub_len s45
  refine st_asg ?_
  refine st_callA (st_args (st_var rfl (st_args ?_)))
  refine st_lst1 (st_args (st_c (st_args (st_c (st_args (st_c (st_args ?_)))))))
  refine st_lst1 (st_args (st_c (st_nil ⟨by simp, ?_⟩)))
  have p6 := Sub.push S5 (O.lst [D.int 5])
  have g6 : (S5 ++ [O.lst [D.int 5]])[S5.length]? = some (.lst [D.int 5]) := push_at
  have n6 := sub_len p6
  have na : S5.length ≠ i := by have := L5.lt; omega
  generalize S5.length = ra at g6 na ⊢
  generalize S5 ++ [O.lst [D.int 5]] = S6 at *
  refine st_args (st_ok (v := .tup [.int 5]) (S := S6) rfl (st_args ?_))
  refine st_ok (v := .ref S6.length) (S := S6 ++ [.dK []]) rfl ?_
  have p7 := Sub.push S6 (O.dK [])
  have g7 : (S6 ++ [O.dK []])[S6.length]? = some (.dK []) := push_at
  have n7 := sub_len p7
  have hra := p7 _ _ g6
  have nb : S6.length ≠ i := by have := L5.lt; omega
  generalize S6.length = rb at g7 nb ⊢
  generalize S6 ++ [O.dK []] = S7 at *
  refine st_args (st_c ?_)
  refine st_args (st_ok (v := .int (-5)) (S := S7) rfl ?_)
  refine st_args (st_c ?_)
  refine st_args (st_c ?_)
  refine st_args (st_ok e_97 ?_)
  refine st_args (st_ok e_60 ?_)
  refine st_nil ⟨by simp, ?_⟩
  refine st_nil ?_
  have p8 := Sub.push S7 (O.lst [D.non, .bl true, .str "", .ref ra, .tup [.int 5], .ref rb, .str "Ba", .int (-5), .int 0, .int 1, .int 1000000007, .int 1000000000000000000000000000000000000000000000000000000000000])
  have n8 := sub_len p8
  have L8 := L5.sub (p6.trans (p7.trans p8))
  have k8 := k5.trans (p6.trans (p7.trans p8)).kp
  refine w_one_of L8 push_at (by simp) (by simp) (by have := L5.lt; omega) (by omega) fun j x S9 hx L9 k9 n9 => ?_
  have ga := k9.at_ na (p8 _ _ hra)
  have gb := k9.at_ nb (p8 _ _ g7)
  obtain ⟨o1, o2⟩ := odd_all ga gb (List.mem_of_getElem? hx)
  simp only [List.set_cons_succ, List.set_cons_zero]
  refine st_ret (st_and ?_)
  rw [q_notV, WP_bind]
  refine st_call (xs := [x]) rfl ?_
  rw [o1]
  refine WP_ok.mpr (WP_ok.mpr ⟨rfl, ?_⟩)
  rw [q_notV, WP_bind]
  refine st_call (xs := [x]) rfl ?_
  refine WP_mono o2 fun u S10 ⟨eu, s10⟩ => ?_
  subst eu
  have n10 := sub_len s10
  exact WP_ok.mpr (WP_ok.mpr (hQ S10 ((L9.sub s10).mono (by omega)) (k8.trans (k9.trans s10.kp)) (by omega)))
end
end Zk01

namespace Zk01
open PySem PySem.Spec Z
noncomputable def turnF : DS := (sSeq (sAsg (dCall f__law_lot (dCons (dVar 0) (dCons (dVar 1) dNil))) (gNm 2)) (sSeq (sIf (tOr2 (tNot1 (dTst (dCall f__law_is_parted (dCons (dCall f__law_integer (dCons (dVar 2) dNil)) dNil)))) (tOr2 (tNot1 (dTst (dCall f__law_rows_right (dCons (dVar 2) dNil)))) (tNot1 (dTst (dCall f__law_reckoned (dCons (dVar 2) dNil)))))) (sRet (dC (.bl false))) sNext) (sIf (tNot1 (dTst (dCall f__law_judged (dCons (dVar 2) dNil)))) (sRet (dC (.bl false))) sNext)))
theorem law_is : b_law = (sSeq (sFor (iRng1 (dCons (dCallB (b2 fMax2) (dCons (dC (.int 1)) (dCons (dCallB (b2 fMin2) (dCons (dC (.int 4)) (dCons (dCallB (b1 fLen) (dCons (dVar 0) dNil)) dNil))) dNil))) dNil)) (gNm 1) turnF) (sIso [] tail_law)) := rfl
def tailS : Store := match tail_law (List.replicate 4 none) [] with | .ok _ T => T | _ => []
theorem tail_ok : tail_law (List.replicate 4 none) [] = .ok (.rt (.bl true)) tailS := by kernel_rfl
theorem plainS (ns : List Int) (hns : ns.length ≤ 63) (S0 : Store) (x : D) (hx : Scr S0 x ns) : ∃ S', f_law [x] S0 = .ok (.bl true) S' := by
  have w : WP (f_law [x] S0) fun d _ => d = .bl true := by
    unfold f_law
    rw [mkFn_wp, law_is]
    unfold n_law
    simp only [List.map_cons, List.map_nil, List.length_cons, List.length_nil, List.cons_append, List.nil_append, List.replicate]
    rw [q_seq, WP_bind, q_for, WP_bind]
    refine wp_turns (most := 4) hx rfl (by decide) (by decide) fun c hc => ?_
    refine wp_for c (fun k env S' => ∃ x1 x2, env = [some x, x1, x2, none] ∧ Scr S' x ns) (by omega) ⟨none, none, rfl, hx⟩ (fun k env S1 hk ⟨x1, x2, he, hs⟩ => ⟨_, jR_at hk, ?_⟩) fun env S1 ⟨x1, x2, he, hs⟩ => ⟨jR_end, ?_⟩
    · rw [he]
      simp only [q_gnm, WP_ok, List.set_cons_succ, List.set_cons_zero]
      unfold turnF
      refine st_asg ?_
      refine st_call (xs := [x, .int (k : Int)]) rfl ?_
      refine w_lot hs (by omega) fun r S2 L2 s2 hr => ?_
      simp only [List.set_cons_succ, List.set_cons_zero]
      refine st_ifr (st_or (st_not (st_tst ?_)))
      refine st_callA (st_args (st_callA (st_args (st_var rfl (st_nil ?_)))))
      refine w_integer L2 (by omega) fun n S3 F L3 k3 n3 => ?_
      refine st_nil ?_
      refine w_isparted F fun S4 s4 => ?_
      refine ⟨true, rfl, rfl, ?_⟩
      have L4 := L3.sub s4
      refine st_or (st_not (st_tst ?_))
      refine st_call (xs := [.ref r]) rfl ?_
      refine w_rowsright L4 (by omega) fun S5 L5 k5 n5 => ⟨true, rfl, rfl, ?_⟩
      refine st_not (st_tst ?_)
      refine st_call (xs := [.ref r]) rfl ?_
      refine w_reckoned L5 (by omega) fun S6 L6 k6 n6 => ⟨true, rfl, And.intro (fun h => absurd h (by decide)) (fun _ => ?_)⟩
      rw [q_sif, WP_bind]
      refine st_not (st_tst ?_)
      refine st_call (xs := [.ref r]) rfl ?_
      refine w_judged L6 (by omega) fun S7 L7 k7 n7 => ⟨true, rfl, ?_⟩
      simp only [Bool.not_true, Bool.false_eq_true, if_false, q_next, WP_ok]
      exact ⟨_, _, rfl, hs.past s2 hr (k3.trans (s4.kp.trans (k5.trans (k6.trans k7))))⟩
    · rw [he]
      exact w_iso (v := .bl true) rfl rfl (by decide) tail_ok rfl rfl (WP_ok.mpr rfl)
  obtain ⟨d, S, e, rfl⟩ := w
  exact ⟨S, e⟩
theorem plain (ns : List Int) (h : ns.length ≤ 63) : ∃ S, f_law [.fls (ns.map D.int)] [] = .ok (.bl true) S := plainS ns h [] _ (.inl rfl)
end Zk01

namespace Zk01
open PySem PySem.Spec PyProof.Rows L2 He Z
theorem run (w : World) : HandSHeadRun.RunEqI R (PySem.W.view R.prog [0, 51]) hk ob 20000 names w := by
  unfold HandSHeadRun.RunEqI; kernel_rfl
end Zk01
open PySem PySem.W PySem.Calls PyProof.Rows
theorem PySem.Challenge.cw_arrowsizes_k01_whole_numbers_and_rows_holds : PySem.Challenge.rw_arrowsizes_k01_whole_numbers_and_rows.Holds := by
  w_on; o_law
  refine HandSHeadRun.head_imp (r := OpenLaw.row PySem.Challenge.rw_arrowsizes_k01_whole_numbers_and_rows) (q := view (OpenLaw.row PySem.Challenge.rw_arrowsizes_k01_whole_numbers_and_rows).prog [0, 51]) (H := Zk01.hk) (ob := Zk01.ob) (M := 20000) (loose := Zk01.names) (d := HandSHeadRun.topDef (OpenLaw.row PySem.Challenge.rw_arrowsizes_k01_whole_numbers_and_rows).prog 51) (kwd := []) Zk01.ob_eq
    Zk01.run (by kernel_rfl) (by kernel_rfl) (by kernel_rfl) (by rfl) (by first | assumption | decide +kernel) (by decide +kernel) ⟨rfl, rfl, rfl, rfl, rfl, by decide +kernel⟩ ?hw ?hc
  case hw => w_witness2
  case hc =>
    refine Z.walk_Z (l := PySem.Challenge.rw_arrowsizes_k01_whole_numbers_and_rows) (n := 63) (k := 6) (x := "_law_script") (CX := fun w => L2.CX PySem.Challenge.pw_arrowsizes_k01_whole_numbers_and_rows w) rfl (by decide) (by kernel_rfl) ⟨rfl, by decide, by decide⟩ ?F (fun _ _ _ _ _ z => Z.cx_none z)
    intro w mg fa h Y G hmg0
    obtain ⟨K, KX, c⟩ := Y
    have hmg : mg ("law" : PySem.Str) = some (.ref fa) := by
      have e : (HandSHeadRun.topDef (OpenLaw.row PySem.Challenge.rw_arrowsizes_k01_whole_numbers_and_rows).prog 51).name = ("law" : PySem.Str) := by kernel_rfl
      rw [← e]
      exact hmg0
    exact Zk01.facts Zk01.plain KX G hmg c
