import PyProof.Rows.All
import Wide.All
import OpenK.AllK
import Wide.FinOn
import KE.KStateDown
import HandS.ForMost
import HandS.More
import HandS.WordsExc
import HandS.Defaults
import HandS.TryMany
import HandS.TryOnly
import HandS.ExcIs
import HandS.CallSlots
import HandS.HeadHook2
import HandS.HeadEnd
import HandS.IsInst
import HandS.Conv
import HandS.Deep
import HandS.Head0
import HandS.Head1
import HandS.Head2
import PySem.Challenge.RW_escrowbook_k07_purses
set_option Elab.async false
set_option linter.all false
set_option maxRecDepth 100000
set_option maxHeartbeats 4000000
namespace Q
open PySem PySem.Spec PyProof.Rows L2
/-! ### parts of the abstract heap -/
/-- a part: true: owned, false: shared, never written -/
abbrev PH := Addr → Option (Bool × HO)
abbrev As := PH → Prop
def leH (h : PH) (H : Hp) : Prop := ∀ a b o, h a = some (b, o) → H a = some o
def cpt (h k : PH) : Prop := ∀ a x y, h a = some x → k a = some y → x.1 = false ∧ x = y
theorem cpt.symm {h k : PH} (c : cpt h k) : cpt k h := fun a x y hx hy => by
  obtain ⟨e1, e2⟩ := c a y x hy hx
  exact ⟨by rw [← e2]; exact e1, e2.symm⟩
def one (a : Addr) (x : Bool × HO) : PH := fun b => if b = a then some x else none
theorem one_same {a : Addr} {x : Bool × HO} : one a x a = some x := if_pos rfl
theorem one_ne {a b : Addr} {x : Bool × HO} (h : b ≠ a) : one a x b = none := if_neg h
theorem one_some {a b : Addr} {x y : Bool × HO} (h : one a x b = some y) : b = a ∧ x = y := by
  by_cases hb : b = a
  · subst hb; rw [one_same] at h; exact ⟨rfl, Option.some.inj h⟩
  · rw [one_ne hb] at h; cases h
def Sats (H : Hp) (L : List As) : Prop := ∃ hs : List PH, Paired (fun (A : As) h => A h) L hs ∧ hs.Pairwise cpt ∧ ∀ h ∈ hs, leH h H
def Ent0 (L L' : List As) : Prop := ∀ H, Sats H L → Sats H L'
theorem Ent0.refl (L : List As) : Ent0 L L := fun _ h => h
theorem Ent0.trans {L L1 L2 : List As} (a : Ent0 L L1) (b : Ent0 L1 L2) : Ent0 L L2 := fun H h => b H (a H h)
theorem Sats.cons_inv {H : Hp} {A : As} {L : List As} (h : Sats H (A :: L)) : ∃ h0 hs, A h0 ∧ Paired (fun (A : As) h => A h) L hs ∧ (∀ k ∈ hs, cpt h0 k) ∧ hs.Pairwise cpt ∧ leH h0 H ∧ ∀ h ∈ hs, leH h H := by
  obtain ⟨hs, p, w, l⟩ := h
  cases p with
  | cons r t => exact ⟨_, _, r, t, (List.pairwise_cons.mp w).1, (List.pairwise_cons.mp w).2, l _ List.mem_cons_self, fun h m => l h (List.mem_cons_of_mem _ m)⟩
theorem Sats.mk {H : Hp} {A : As} {L : List As} {h0 : PH} {hs : List PH} (a : A h0) (p : Paired (fun (A : As) h => A h) L hs) (c : ∀ k ∈ hs, cpt h0 k) (w : hs.Pairwise cpt) (l0 : leH h0 H) (l : ∀ h ∈ hs, leH h H) : Sats H (A :: L) :=
  ⟨h0 :: hs, .cons a p, List.pairwise_cons.mpr ⟨c, w⟩, fun h m => by
    rcases List.mem_cons.mp m with e | m
    · rw [e]; exact l0
    · exact l h m⟩
theorem Ent0.drop {A : As} {L : List As} : Ent0 (A :: L) L := fun H h => by
  obtain ⟨_, hs, _, p, _, w, _, l⟩ := h.cons_inv
  exact ⟨hs, p, w, l⟩
theorem Ent0.cons {A : As} {L L' : List As} (e : ∀ hs H, Paired (fun (A : As) h => A h) L hs → hs.Pairwise cpt → (∀ h ∈ hs, leH h H) → ∃ ks, Paired (fun (A : As) h => A h) L' ks ∧ ks.Pairwise cpt ∧ (∀ h ∈ ks, leH h H) ∧ ∀ k ∈ ks, ∀ h0 : PH, (∀ h ∈ hs, cpt h0 h) → cpt h0 k) : Ent0 (A :: L) (A :: L') := fun H h => by
  obtain ⟨h0, hs, a, p, c, w, l0, l⟩ := h.cons_inv
  obtain ⟨ks, p', w', l', c'⟩ := e hs H p w l
  exact Sats.mk a p' (fun k m => c' k m h0 c) w' l0 l'
/-- A stands somewhere in L; F is the rest -/
inductive Pick (A : As) : List As → List As → Prop
  | here {L : List As} : Pick A (A :: L) L
  | there {B : As} {L F : List As} : Pick A L F → Pick A (B :: L) (B :: F)
theorem Sats.swap {H : Hp} {A B : As} {L : List As} (h : Sats H (A :: B :: L)) : Sats H (B :: A :: L) := by
  obtain ⟨hs, p, w, l⟩ := h
  cases p with
  | cons r t => cases t with
    | cons r' t =>
      obtain ⟨c1, w⟩ := List.pairwise_cons.mp w
      obtain ⟨c2, w⟩ := List.pairwise_cons.mp w
      refine ⟨_ :: _ :: _, .cons r' (.cons r t), List.pairwise_cons.mpr ⟨fun k m => ?_, List.pairwise_cons.mpr ⟨fun k m => c1 k (List.mem_cons_of_mem _ m), w⟩⟩, fun h m => ?_⟩
      · rcases List.mem_cons.mp m with e | m
        · rw [e]; exact (c1 _ List.mem_cons_self).symm
        · exact c2 k m
      · rcases List.mem_cons.mp m with e | m
        · exact l h (by rw [e]; simp)
        · rcases List.mem_cons.mp m with e | m
          · exact l h (by rw [e]; simp)
          · exact l h (by simp [m])
theorem Ent0.swap {A B : As} {L : List As} : Ent0 (A :: B :: L) (B :: A :: L) := fun _ h => h.swap
theorem Ent0.under {A : As} {L L' : List As} (hs : ∀ hs, Paired (fun (A : As) h => A h) L hs → ∃ ks, Paired (fun (A : As) h => A h) L' ks ∧ ks.Perm hs) : Ent0 (A :: L) (A :: L') := Ent0.cons fun hs' H p w l => by
  obtain ⟨ks, p', pm⟩ := hs hs' p
  refine ⟨ks, p', (pm.symm.pairwise_iff (fun c => c.symm)).mp w, fun h m => l h (pm.mem_iff.mp m), fun k m h0 c => c k (pm.mem_iff.mp m)⟩
theorem Pick.perm {A : As} : ∀ {L F : List As}, Pick A L F → ∀ hs, Paired (fun (A : As) h => A h) L hs → ∃ ks, Paired (fun (A : As) h => A h) (A :: F) ks ∧ ks.Perm hs
  | _, _, .here, hs, p => ⟨hs, p, .refl _⟩
  | _, _, .there q, hs, p => by
    cases p with
    | cons r t =>
      obtain ⟨ks, p', pm⟩ := q.perm _ t
      cases p' with
      | cons r' t' => exact ⟨_ :: _ :: _, .cons r' (.cons r t'), (List.Perm.swap _ _ _).trans (pm.cons _)⟩
theorem Pick.perm' {A : As} : ∀ {L F : List As}, Pick A L F → ∀ hs, Paired (fun (A : As) h => A h) (A :: F) hs → ∃ ks, Paired (fun (A : As) h => A h) L ks ∧ ks.Perm hs
  | _, _, .here, hs, p => ⟨hs, p, .refl _⟩
  | _, _, .there q, hs, p => by
    cases p with
    | cons r t => cases t with
      | cons r' t' =>
        obtain ⟨ks, p', pm⟩ := q.perm' _ (.cons r t')
        exact ⟨_ :: ks, .cons r' p', (pm.cons _).trans (List.Perm.swap _ _ _)⟩
theorem sats_perm {H : Hp} {L L' : List As} (hs : ∀ hs, Paired (fun (A : As) h => A h) L hs → ∃ ks, Paired (fun (A : As) h => A h) L' ks ∧ ks.Perm hs) (h : Sats H L) : Sats H L' := by
  obtain ⟨hs', p, w, l⟩ := h
  obtain ⟨ks, p', pm⟩ := hs hs' p
  exact ⟨ks, p', (pm.symm.pairwise_iff (fun c => c.symm)).mp w, fun h m => l h (pm.mem_iff.mp m)⟩
theorem Pick.ent0 {A : As} {L F : List As} (q : Pick A L F) : Ent0 L (A :: F) := fun _ h => sats_perm q.perm h
theorem Pick.ent0' {A : As} {L F : List As} (q : Pick A L F) : Ent0 (A :: F) L := fun _ h => sats_perm q.perm' h
/-- A in L put in B's place -/
inductive Upd (A B : As) : List As → List As → Prop
  | here {L : List As} : Upd A B (A :: L) (B :: L)
  | there {C : As} {L L' : List As} : Upd A B L L' → Upd A B (C :: L) (C :: L')
theorem Upd.pick {A B : As} {L L' : List As} (u : Upd A B L L') : ∃ F, Pick A L F ∧ Pick B L' F := by
  induction u with
  | here => exact ⟨_, .here, .here⟩
  | there _ ih => obtain ⟨F, p, q⟩ := ih; exact ⟨_, .there p, .there q⟩
inductive Has (A : As) : List As → Prop
  | here {L : List As} : Has A (A :: L)
  | there {B : As} {L : List As} : Has A L → Has A (B :: L)
theorem Has.pick {A : As} {L : List As} (u : Has A L) : ∃ F, Pick A L F := by
  induction u with
  | here => exact ⟨_, .here⟩
  | there _ ih => obtain ⟨F, p⟩ := ih; exact ⟨_, .there p⟩
/-- framing an entailment of one assertion -/
theorem Ent0.head {A B : As} {L : List As} (h : ∀ x, A x → ∃ y, B y ∧ (∀ k, cpt x k → cpt y k) ∧ ∀ H, leH x H → leH y H) : Ent0 (A :: L) (B :: L) := fun H s => by
  obtain ⟨h0, hs, a, p, c, w, l0, l⟩ := s.cons_inv
  obtain ⟨y, b, cy, ly⟩ := h h0 a
  exact Sats.mk b p (fun k m => cy k (c k m)) w (ly H l0) l
theorem Ent0.tail {A : As} {L L' : List As} (e : Ent0 (A :: L) (A :: L')) : Ent0 (A :: L) (A :: L') := e
/-! ### cells -/
def cell (a : Addr) (o : HO) : As := fun h => h = one a (true, o)
theorem Sats.get {H : Hp} {a : Addr} {o : HO} {L : List As} (h : Sats H (cell a o :: L)) : H a = some o := by
  obtain ⟨h0, hs, c, _, _, _, l0, _⟩ := h.cons_inv
  exact l0 a true o (by rw [show h0 = _ from c, one_same])
theorem Sats.has {H : Hp} {a : Addr} {o : HO} {L : List As} (h : Sats H L) (q : Has (cell a o) L) : H a = some o := by
  obtain ⟨F, p⟩ := q.pick
  exact (p.ent0 H h).get
theorem Sats.put {H : Hp} {a : Addr} {o o' : HO} {L : List As} (h : Sats H (cell a o :: L)) : Sats (upd H a o') (cell a o' :: L) := by
  obtain ⟨h0, hs, c, p, cc, w, l0, l⟩ := h.cons_inv
  have h0a : h0 a = some (true, o) := by rw [show h0 = _ from c, one_same]
  have none_at : ∀ k ∈ hs, k a = none := fun k m => by
    cases e : k a with
    | none => rfl
    | some y =>
      have := (cc k m a _ _ h0a e).1
      cases this
  have le' : ∀ k ∈ hs, leH k (upd H a o') := fun k m b x u e => by
    have hb : b ≠ a := fun z => by rw [z, none_at k m] at e; cases e
    rw [upd_ne hb]
    exact l k m b x u e
  refine Sats.mk (h0 := one a (true, o')) rfl p (fun k m b x y hx hy => ?_) w (fun b x u e => ?_) le'
  · obtain ⟨rfl, _⟩ := one_some hx
    rw [none_at k m] at hy; cases hy
  · obtain ⟨rfl, e2⟩ := one_some e
    cases e2
    exact upd_same
theorem Sats.upd {H : Hp} {a : Addr} {o o' : HO} {L L' : List As} (h : Sats H L) (u : Upd (cell a o) (cell a o') L L') : Sats (upd H a o') L' := by
  obtain ⟨F, p, q⟩ := u.pick
  exact q.ent0' _ (p.ent0 H h).put
theorem Sats.upd_mut {H : Hp} {a : Addr} {o o' : HO} {L L' : List As} (h : Sats H L) (u : Upd (cell a o) (cell a o') L L') : H a = some o := by
  obtain ⟨F, p, q⟩ := u.pick
  exact (p.ent0 H h).get
theorem Sats.ext {H H' : Hp} {L : List As} (h : Sats H L) (e : ∀ a o, H a = some o → H' a = some o) : Sats H' L := by
  obtain ⟨hs, p, w, l⟩ := h
  exact ⟨hs, p, w, fun k m b x u q => e _ _ (l k m b x u q)⟩
theorem Sats.fresh {H H' : Hp} {p : Addr} {o : HO} {L : List As} (h : Sats H L) (e : ∀ a o, H a = some o → H' a = some o) (n : H p = none) (q : H' p = some o) : Sats H' (cell p o :: L) := by
  obtain ⟨hs, pr, w, l⟩ := h
  have none_at : ∀ k ∈ hs, k p = none := fun k m => by
    cases z : k p with
    | none => rfl
    | some y =>
      obtain ⟨b, u⟩ := y
      have l2 := l k m p b u z
      rw [n] at l2; cases l2
  refine Sats.mk (h0 := one p (true, o)) rfl pr (fun k m b x y hx hy => ?_) w (fun b x u z => ?_) fun k m b x u z => e _ _ (l k m b x u z)
  · obtain ⟨rfl, _⟩ := one_some hx
    rw [none_at k m] at hy; cases hy
  · obtain ⟨rfl, e2⟩ := one_some z
    cases e2
    exact q
theorem upd_ext {H : Hp} {p : Addr} {o : HO} (n : H p = none) : ∀ a u, H a = some u → L2.upd H p o a = some u := fun a u e => by
  rw [upd_ne (ne_of_none e n)]; exact e
theorem Sats.new {H : Hp} {p : Addr} {o : HO} {L : List As} (h : Sats H L) (n : H p = none) : Sats (L2.upd H p o) (cell p o :: L) := h.fresh (upd_ext n) n upd_same
/-! ### shared, never written -/
def KL (K : PySem.W.Frag) (a : Addr) (xs : List V) : Prop := ∃ (o : Obj) (its : Array Value) (n : Nat), K.lookup a = some o ∧ o.cls = .type "list" ∧ o.dict = none ∧ o.data = .seq its n ∧ its.size ≤ sizeLine ∧ Vals xs its.toList
/-- what was handed in: a list that stays -/
def Sq (K : PySem.W.Frag) (a : Addr) (xs : List V) : As := fun h => (∀ b x, h b = some x → x.1 = false) ∧ (h a = some (false, .lst xs) ∨ (∃ o, h a = some (false, .frz o (.lst xs))) ∨ KL K a xs)
/-- a thing that is read only from now on -/
def Sh (a : Addr) (o : HO) : As := fun h => h = one a (false, o)
theorem Sats.sq {K : PySem.W.Frag} {H : Hp} {a : Addr} {xs : List V} {L : List As} (h : Sats H L) (q : Has (Sq K a xs) L) : SqL K H a xs := by
  obtain ⟨F, p⟩ := q.pick
  obtain ⟨h0, hs, c, _, _, _, l0, _⟩ := (p.ent0 H h).cons_inv
  rcases c.2 with c | ⟨o, c⟩ | c
  · exact .inl (.inl (l0 a _ _ c))
  · exact .inl (.inr ⟨o, l0 a _ _ c⟩)
  · exact .inr c
theorem Sats.sh {H : Hp} {a : Addr} {o : HO} {L : List As} (h : Sats H L) (q : Has (Sh a o) L) : H a = some o := by
  obtain ⟨F, p⟩ := q.pick
  obtain ⟨h0, hs, c, _, _, _, l0, _⟩ := (p.ent0 H h).cons_inv
  exact l0 a false o (by rw [show h0 = _ from c, one_same])
/-- what was handed in -/
theorem Sats.script {K : PySem.W.Frag} {H : Hp} {a : Addr} {xs : List V} (h : SqL K H a xs) : Sats H [Sq K a xs] := by
  rcases h with (h | ⟨o, h⟩) | h
  · refine Sats.mk (h0 := one a (false, .lst xs)) (hs := []) ⟨fun b x e => ?_, .inl one_same⟩ .nil (fun _ m => nomatch m) .nil (fun b x u e => ?_) (fun _ m => nomatch m)
    · obtain ⟨_, e2⟩ := one_some e
      rw [← e2]
    · obtain ⟨rfl, e2⟩ := one_some e
      cases e2
      exact h
  · refine Sats.mk (h0 := one a (false, .frz o (.lst xs))) (hs := []) ⟨fun b x e => ?_, .inr (.inl ⟨o, one_same⟩)⟩ .nil (fun _ m => nomatch m) .nil (fun b x u e => ?_) (fun _ m => nomatch m)
    · obtain ⟨_, e2⟩ := one_some e
      rw [← e2]
    · obtain ⟨rfl, e2⟩ := one_some e
      cases e2
      exact h
  · exact Sats.mk (h0 := fun _ => none) (hs := []) ⟨fun b x e => (nomatch e), .inr (.inr h)⟩ .nil (fun _ m => nomatch m) .nil (fun b x u e => (nomatch e)) (fun _ m => (nomatch m))
theorem Ent0.sh {a : Addr} {o : HO} {L L' : List As} (u : Upd (cell a o) (Sh a o) L L') : Ent0 L L' := by
  obtain ⟨F, p, q⟩ := u.pick
  refine p.ent0.trans (Ent0.trans (Ent0.head fun h0 c => ?_) q.ent0')
  have h0a : h0 a = some (true, o) := by rw [show h0 = _ from c, one_same]
  refine ⟨one a (false, o), rfl, fun k ck b x y e1 e2 => ?_, fun H l b x u e => ?_⟩
  · obtain ⟨rfl, _⟩ := one_some e1
    have := (ck b _ _ h0a e2).1
    cases this
  · obtain ⟨rfl, e2⟩ := one_some e
    cases e2
    exact l b _ _ h0a
def Per (A : As) : Prop := ∀ h : PH, A h → ∀ b x, h b = some x → x.1 = false
theorem per_sq {K : PySem.W.Frag} {a : Addr} {xs : List V} : Per (Sq K a xs) := fun _ c => c.1
theorem per_sh {a : Addr} {o : HO} : Per (Sh a o) := fun h c b x e => by
  rw [show h = _ from c] at e
  obtain ⟨_, e2⟩ := one_some e
  rw [← e2]
theorem Ent0.dup {A : As} {L : List As} (p : Per A) (q : Has A L) : Ent0 L (A :: L) := fun H s => by
  obtain ⟨F, pk⟩ := q.pick
  have s1 : Sats H (A :: A :: F) := by
    obtain ⟨h0, hs, a, pr, c, w, l0, l⟩ := (pk.ent0 H s).cons_inv
    refine Sats.mk (h0 := h0) (hs := h0 :: hs) a (.cons a pr) (fun k m => ?_) (List.pairwise_cons.mpr ⟨c, w⟩) l0 (fun k m => ?_)
    · rcases List.mem_cons.mp m with e | m
      · rw [e]
        intro b x y e1 e2
        rw [e1] at e2
        exact ⟨p _ a b x e1, Option.some.inj e2⟩
      · exact c k m
    · rcases List.mem_cons.mp m with e | m
      · rw [e]; exact l0
      · exact l k m
  obtain ⟨h0, hs, a, pr, c, w, l0, l⟩ := s1.cons_inv
  have e : Ent0 (A :: A :: F) (A :: L) := Ent0.under fun hs p => pk.perm' hs p
  exact e H s1
/-! ### pure facts, choices, bundles -/
def Pur (p : Prop) : As := fun h => p ∧ ∀ b, h b = none
theorem Sats.pur {H : Hp} {p : Prop} {L : List As} (h : Sats H (Pur p :: L)) : p := by
  obtain ⟨h0, hs, c, _⟩ := h.cons_inv
  exact c.1
theorem Ent0.pur {p : Prop} {L : List As} (hp : p) : Ent0 L (Pur p :: L) := fun H ⟨hs, pr, w, l⟩ =>
  Sats.mk (h0 := fun _ => none) ⟨hp, fun _ => rfl⟩ pr (fun _ _ _ _ _ e => by cases e) w (fun _ _ _ e => by cases e) l
def Exs {α : Type} (f : α → As) : As := fun h => ∃ x, f x h
theorem Sats.exs {α : Type} {f : α → As} {H : Hp} {L : List As} (h : Sats H (Exs f :: L)) : ∃ x, Sats H (f x :: L) := by
  obtain ⟨h0, hs, ⟨x, a⟩, pr, c, w, l0, l⟩ := h.cons_inv
  exact ⟨x, Sats.mk a pr c w l0 l⟩
theorem Ent0.exs {α : Type} {f : α → As} {L : List As} (x : α) : Ent0 (f x :: L) (Exs f :: L) := Ent0.head fun h a => ⟨h, ⟨x, a⟩, fun _ c => c, fun _ l => l⟩
/-- several parts taken as one -/
def join (hs : List PH) : PH := fun a => hs.findSome? fun h => h a
def Bun (L : List As) : As := fun h => ∃ hs, Paired (fun (A : As) h => A h) L hs ∧ hs.Pairwise cpt ∧ h = join hs
theorem join_some {hs : List PH} {a : Addr} {x : Bool × HO} (e : join hs a = some x) : ∃ h ∈ hs, h a = some x := by
  unfold join at e
  exact List.exists_of_findSome?_eq_some e
theorem join_of {hs : List PH} (w : hs.Pairwise cpt) {h : PH} {a : Addr} {x : Bool × HO} (m : h ∈ hs) (e : h a = some x) : join hs a = some x := by
  induction hs with
  | nil => cases m
  | cons k r ih =>
    obtain ⟨c, w⟩ := List.pairwise_cons.mp w
    unfold join
    rw [List.findSome?_cons]
    rcases List.mem_cons.mp m with z | m
    · subst z; rw [e]
    · cases q : k a with
      | none => exact ih w m
      | some y => rw [(c h m a y x q e).2]
theorem paired_append {L L' : List As} {hs ks : List PH} (p : Paired (fun (A : As) h => A h) L hs) (q : Paired (fun (A : As) h => A h) L' ks) : Paired (fun (A : As) h => A h) (L ++ L') (hs ++ ks) := by
  induction p with
  | nil => exact q
  | cons r t ih => exact .cons r ih
theorem paired_split {L L' : List As} {hs : List PH} (p : Paired (fun (A : As) h => A h) (L ++ L') hs) : ∃ h1 h2, hs = h1 ++ h2 ∧ Paired (fun (A : As) h => A h) L h1 ∧ Paired (fun (A : As) h => A h) L' h2 := by
  induction L generalizing hs with
  | nil => exact ⟨[], hs, rfl, .nil, p⟩
  | cons A L ih =>
    cases p with
    | cons r t =>
      obtain ⟨h1, h2, e, a, b⟩ := ih t
      exact ⟨_ :: h1, h2, by rw [e]; rfl, .cons r a, b⟩
theorem Ent0.unbun {L F : List As} : Ent0 (Bun L :: F) (L ++ F) := fun H s => by
  obtain ⟨h0, hs, ⟨ks, pk, wk, e⟩, pr, c, w, l0, l⟩ := s.cons_inv
  subst e
  refine ⟨ks ++ hs, paired_append pk pr, List.pairwise_append.mpr ⟨wk, w, fun k mk h mh a x y hx hy => c h mh a x y (join_of wk mk hx) hy⟩, fun h m => ?_⟩
  rcases List.mem_append.mp m with m | m
  · exact fun a b o q => l0 a b o (join_of wk m q)
  · exact l h m
theorem Ent0.bun {L F : List As} : Ent0 (L ++ F) (Bun L :: F) := fun H s => by
  obtain ⟨hs, p, w, l⟩ := s
  obtain ⟨h1, h2, rfl, p1, p2⟩ := paired_split p
  obtain ⟨w1, w2, c⟩ := List.pairwise_append.mp w
  refine Sats.mk (h0 := join h1) ⟨h1, p1, w1, rfl⟩ p2 (fun k m a x y hx hy => ?_) w2 (fun a b o q => ?_) fun h m => l h (List.mem_append_right _ m)
  · obtain ⟨h, mh, e⟩ := join_some hx
    exact c h mh k m a x y e hy
  · obtain ⟨h, mh, e⟩ := join_some q
    exact l h (List.mem_append_left _ mh) a b o e
theorem Ent0.mapHead {A B : As} {L : List As} (h : ∀ x, A x → B x) : Ent0 (A :: L) (B :: L) := Ent0.head fun x a => ⟨x, h x a, fun _ c => c, fun _ l => l⟩
/-- two cells stand apart -/
theorem Sats.apart {H : Hp} {a b : Addr} {o u : HO} {L : List As} (h : Sats H (cell a o :: cell b u :: L)) : a ≠ b := fun z => by
  subst z
  obtain ⟨h0, hs, c, p, cc, _⟩ := h.cons_inv
  cases p with
  | cons r t =>
    have := (cc _ List.mem_cons_self a (true, o) (true, u) (by rw [show h0 = _ from c, one_same]) (by rw [show _ = _ from r, one_same])).1
    cases this
/-! ### an entailment beside anything -/
def Ent (L L' : List As) : Prop := ∀ (G : List As) (H : Hp), Sats H (G ++ L) → Sats H (G ++ L')
theorem Ent.ap {L L' : List As} (e : Ent L L') {H : Hp} (s : Sats H L) : Sats H L' := e [] H s
theorem Ent.refl (L : List As) : Ent L L := fun _ _ h => h
theorem Ent.trans {L L1 L2 : List As} (a : Ent L L1) (b : Ent L1 L2) : Ent L L2 := fun G H h => b G H (a G H h)
theorem Ent.cons {A : As} {L L' : List As} (e : Ent L L') : Ent (A :: L) (A :: L') := fun G H h => by
  have h2 : Sats H ((G ++ [A]) ++ L) := by rw [List.append_assoc]; exact h
  have h3 := e (G ++ [A]) H h2
  rw [List.append_assoc] at h3
  exact h3
theorem sats_rot {H : Hp} {G X L : List As} (h : Sats H (G ++ (X ++ L))) : Sats H (X ++ (G ++ L)) := sats_perm (fun hs p => by
  obtain ⟨h1, h23, rfl, p1, p23⟩ := paired_split p
  obtain ⟨h2, h3, rfl, p2, p3⟩ := paired_split p23
  refine ⟨h2 ++ (h1 ++ h3), paired_append p2 (paired_append p1 p3), ?_⟩
  rw [← List.append_assoc, ← List.append_assoc]
  exact List.perm_append_comm.append_right h3) h
theorem Ent.of {X Y L : List As} (e : ∀ F, Ent0 (X ++ F) (Y ++ F)) : Ent (X ++ L) (Y ++ L) := fun G H h => sats_rot (e (G ++ L) H (sats_rot h))
theorem Ent.drop {A : As} {L : List As} : Ent (A :: L) L := Ent.of (X := [A]) (Y := []) fun F => Ent0.drop
theorem Ent.swap {A B : As} {L : List As} : Ent (A :: B :: L) (B :: A :: L) := Ent.of (X := [A, B]) (Y := [B, A]) fun F => Ent0.swap
theorem Pick.ent {A : As} {L F : List As} (q : Pick A L F) : Ent L (A :: F) := by
  induction q with
  | here => exact .refl _
  | there _ ih => exact ih.cons.trans .swap
theorem Pick.ent' {A : As} {L F : List As} (q : Pick A L F) : Ent (A :: F) L := by
  induction q with
  | here => exact .refl _
  | there _ ih => exact Ent.swap.trans ih.cons
theorem Ent.sh {a : Addr} {o : HO} {L L' : List As} (u : Upd (cell a o) (Sh a o) L L') : Ent L L' := by
  obtain ⟨F, p, q⟩ := u.pick
  exact p.ent.trans (Ent.trans (Ent.of (X := [cell a o]) (Y := [Sh a o]) fun F => Ent0.sh .here) q.ent')
theorem Ent.dup {A : As} {L : List As} (p : Per A) (q : Has A L) : Ent L (A :: L) := by
  obtain ⟨F, pk⟩ := q.pick
  exact pk.ent.trans (Ent.trans (Ent.of (X := [A]) (Y := [A, A]) fun F => Ent0.dup p .here) pk.ent'.cons)
theorem Ent.pur {p : Prop} {L : List As} (hp : p) : Ent L (Pur p :: L) := Ent.of (X := []) (Y := [Pur p]) fun F => Ent0.pur hp
theorem Ent.exs {α : Type} {f : α → As} {L : List As} (x : α) : Ent (f x :: L) (Exs f :: L) := Ent.of (X := [f x]) (Y := [Exs f]) fun F => Ent0.exs x
theorem Ent.unbun {L F : List As} : Ent (Bun L :: F) (L ++ F) := Ent.of (X := [Bun L]) (Y := L) fun F => Ent0.unbun
theorem Ent.bun {L F : List As} : Ent (L ++ F) (Bun L :: F) := Ent.of (X := L) (Y := [Bun L]) fun F => Ent0.bun
theorem Ent.mapHead {A B : As} {L : List As} (h : ∀ x, A x → B x) : Ent (A :: L) (B :: L) := Ent.of (X := [A]) (Y := [B]) fun F => Ent0.mapHead h
/-- A alone -/
theorem Ent.only {A : As} {L : List As} (h : Has A L) : Ent L [A] := by
  obtain ⟨F, pk⟩ := h.pick
  refine pk.ent.trans ?_
  clear pk
  induction F with
  | nil => exact .refl _
  | cons B F ih => exact Ent.trans .swap (Ent.trans .drop ih)
theorem Ent.nil {L : List As} : Ent L [] := by
  induction L with
  | nil => exact .refl _
  | cons A L ih => exact .trans .drop ih
/-! ### many shared things -/
def Shs (m : List (Addr × HO)) : As := fun h => (∀ b x, h b = some x → x.1 = false) ∧ ∀ p ∈ m, h p.1 = some (false, p.2)
theorem per_shs {m : List (Addr × HO)} : Per (Shs m) := fun _ c => c.1
theorem Sats.shs {H : Hp} {m : List (Addr × HO)} {L : List As} (h : Sats H L) (q : Has (Shs m) L) {a : Addr} {o : HO} (e : (a, o) ∈ m) : H a = some o := by
  obtain ⟨F, p⟩ := q.pick
  obtain ⟨h0, hs, c, _, _, _, l0, _⟩ := (p.ent.ap h).cons_inv
  exact l0 a false o (c.2 (a, o) e)
theorem Ent.shs0 {L : List As} : Ent L (Shs [] :: L) := Ent.of (X := []) (Y := [Shs []]) fun F H ⟨hs, pr, w, l⟩ =>
  Sats.mk (h0 := fun _ => none) ⟨fun _ _ e => (nomatch e), fun _ m => (nomatch m)⟩ pr (fun _ _ _ _ _ e => by cases e) w (fun _ _ _ e => by cases e) l
theorem Ent.shs1 {a : Addr} {o : HO} {m : List (Addr × HO)} {L : List As} : Ent (Sh a o :: Shs m :: L) (Shs ((a, o) :: m) :: L) := Ent.trans (Ent.bun (L := [Sh a o, Shs m])) (Ent.mapHead fun h ⟨hs, p, w, e⟩ => by
  cases p with
  | cons r t => cases t with
    | cons r2 t => cases t with
      | nil =>
        subst e
        refine ⟨fun b x hx => ?_, fun q hq => ?_⟩
        · obtain ⟨k, mk, ek⟩ := join_some hx
          rcases List.mem_cons.mp mk with z | mk
          · subst z; exact per_sh _ r b x ek
          · rcases List.mem_cons.mp mk with z | mk
            · subst z; exact r2.1 b x ek
            · cases mk
        · rcases List.mem_cons.mp hq with z | hq
          · subst z
            exact join_of w List.mem_cons_self (by rw [show _ = _ from r, one_same])
          · exact join_of w (List.mem_cons_of_mem _ List.mem_cons_self) (r2.2 q hq))
theorem Ent.shs {a : Addr} {o : HO} {m : List (Addr × HO)} {L : List As} : Ent (cell a o :: Shs m :: L) (Shs ((a, o) :: m) :: L) := (Ent.sh .here).trans Ent.shs1
end Q

namespace Q
open PySem PySem.Spec L2
/-! ### readings over assertions in place of heaps -/
def WpE (L : List As) (σ : St) (te : TE) (K : V → List As → Prop) : Prop := ∀ (H : Hp) (Q : VK), Sats H L → (∀ v L' H', K v L' → Sats H' L' → Q v H') → te σ H Q
def WpT (L : List As) (σ : St) (tt : TT) (K : Bool → List As → Prop) : Prop := ∀ (H : Hp) (Q : Bool → Hp → Prop), Sats H L → (∀ v L' H', K v L' → Sats H' L' → Q v H') → tt σ H Q
def WpA (L : List As) (σ : St) (ta : TA) (K : List V → List As → Prop) : Prop := ∀ (H : Hp) (Q : List V → Hp → Prop), Sats H L → (∀ v L' H', K v L' → Sats H' L' → Q v H') → ta σ H Q
def WpO (L : List As) (σ : St) (ta : TO) (K : Option Int → List As → Prop) : Prop := ∀ (H : Hp) (Q : Option Int → Hp → Prop), Sats H L → (∀ v L' H', K v L' → Sats H' L' → Q v H') → ta σ H Q
def WpR (L : List As) (r : R2) (x y : V) (K : V → List As → Prop) : Prop := ∀ (H : Hp) (Q : VK), Sats H L → (∀ v L' H', K v L' → Sats H' L' → Q v H') → r x y H Q
def WpU (L : List As) (r : V → Hp → VK → Prop) (x : V) (K : V → List As → Prop) : Prop := ∀ (H : Hp) (Q : VK), Sats H L → (∀ v L' H', K v L' → Sats H' L' → Q v H') → r x H Q
def WpC (L : List As) (r : List V → Hp → VK → Prop) (vs : List V) (K : V → List As → Prop) : Prop := ∀ (H : Hp) (Q : VK), Sats H L → (∀ v L' H', K v L' → Sats H' L' → Q v H') → r vs H Q
def WpM (L : List As) (r : V → List V → Hp → VK → Prop) (x : V) (vs : List V) (K : V → List As → Prop) : Prop := ∀ (H : Hp) (Q : VK), Sats H L → (∀ v L' H', K v L' → Sats H' L' → Q v H') → r x vs H Q
def WpSl (L : List As) (r : V → Option Int → Option Int → Hp → VK → Prop) (x : V) (lo hi : Option Int) (K : V → List As → Prop) : Prop := ∀ (H : Hp) (Q : VK), Sats H L → (∀ v L' H', K v L' → Sats H' L' → Q v H') → r x lo hi H Q
abbrev XL := Value → Option Addr → List As → Prop
def LE (KE : XL) (E : XK) : Prop := ∀ c d L' H', KE c d L' → Sats H' L' → E c d H'
def X0 : XL := fun _ _ _ => False
theorem le0 {E : XK} : LE X0 E := fun _ _ _ _ h => h.elim
def WpF (L : List As) (sp : Sp) (vs : List V) (K : V → List As → Prop) (KE : XL) : Prop := ∀ (H : Hp) (Q : VK) (E : XK), Sats H L → (∀ v L' H', K v L' → Sats H' L' → Q v H') → LE KE E → sp vs H Q E
def WpG (L : List As) (σ : St) (g : TG) (x : V) (K : St → List As → Prop) : Prop := ∀ (H : Hp) (Q : St → Hp → Prop), Sats H L → (∀ σ' L' H', K σ' L' → Sats H' L' → Q σ' H') → g x σ H Q
def WpGs (L : List As) (σ : St) (g : TGs) (x : List V) (K : St → List As → Prop) : Prop := ∀ (H : Hp) (Q : St → Hp → Prop), Sats H L → (∀ σ' L' H', K σ' L' → Sats H' L' → Q σ' H') → g x σ H Q
abbrev SL := St → List As → Prop
abbrev VL := V → List As → Prop
structure Lift (nx : SL) (rt : VL) (bk ct : SL) (D : Ends) : Prop where
  nx : ∀ σ L H, nx σ L → Sats H L → D.nx σ H
  rt : ∀ v L H, rt v L → Sats H L → D.rt v H
  bk : ∀ σ L H, bk σ L → Sats H L → D.bk σ H
  ct : ∀ σ L H, ct σ L → Sats H L → D.ct σ H
def WpS (L : List As) (σ : St) (t : TS) (nx : SL) (rt : VL) (bk ct : SL) : Prop := ∀ (H : Hp) (D : Ends), Sats H L → Lift nx rt bk ct D → t D σ H
def F0 : SL := fun _ _ => False
/-- a truth value, and then -/
def WB (x : V) (L : List As) (K : Bool → List As → Prop) : Prop := ∃ c, x = .bl c ∧ K c L
theorem wb {c : Bool} {L : List As} {K : Bool → List As → Prop} (k : K c L) : WB (.bl c) L K := ⟨c, rfl, k⟩
/-- a def's promise -/
abbrev Bd := List V → List As → VL → XL → Prop
def Spc (B : Bd) : Sp := fun vs H Q E => ∃ L K KE, Sats H L ∧ B vs L K KE ∧ (∀ v L' H', K v L' → Sats H' L' → Q v H') ∧ LE KE E
def WI (x : V) (L : List As) (K : Int → List As → Prop) : Prop := ∃ c, x = .int c ∧ K c L
theorem wi {c : Int} {L : List As} {K : Int → List As → Prop} (k : K c L) : WI (.int c) L K := ⟨c, rfl, k⟩
/-- up to what is dropped and turned -/
def Up (K : VL) : VL := fun v L => ∃ L', Ent L L' ∧ K v L'
def UpX (K : XL) : XL := fun c d L => ∃ L', Ent L L' ∧ K c d L'
def UpS (K : SL) : SL := fun σ L => ∃ L', Ent L L' ∧ K σ L'
section
variable {L L1 : List As} {σ : St} {K : VL} {KE : XL} {te ta tb tc : TE} {tt tA tB' : TT} {x y v : V} {r r' : R2}
theorem wpf_spc {B : Bd} {vs : List V} (h : B vs L K KE) : WpF L (Spc B) vs K KE := fun H Q E s hK hE => ⟨L, K, KE, s, h, hK, hE⟩
theorem wpf_ent {sp : Sp} {vs : List V} (e : Ent L L1) (h : WpF L1 sp vs K KE) : WpF L sp vs K KE := fun H Q E s => h H Q E (e.ap s)
theorem wpe_ent (e : Ent L L1) (h : WpE L1 σ te K) : WpE L σ te K := fun H Q s => h H Q (e.ap s)
theorem wps_ent {t : TS} {nx : SL} {rt : VL} {bk ct : SL} (e : Ent L L1) (h : WpS L1 σ t nx rt bk ct) : WpS L σ t nx rt bk ct := fun H D s => h H D (e.ap s)
theorem wps_exs {α : Type} {f : α → As} {t : TS} {nx : SL} {rt : VL} {bk ct : SL} (h : ∀ x, WpS (f x :: L) σ t nx rt bk ct) : WpS (Exs f :: L) σ t nx rt bk ct := fun H D s hl => by
  obtain ⟨x, s⟩ := s.exs
  exact h x H D s hl
theorem wps_pur {p : Prop} {t : TS} {nx : SL} {rt : VL} {bk ct : SL} (h : p → WpS L σ t nx rt bk ct) : WpS (Pur p :: L) σ t nx rt bk ct := fun H D s hl => h s.pur H D (Ent.drop.ap s) hl
/-- what the heap tells -/
theorem wps_know {p : Prop} {t : TS} {nx : SL} {rt : VL} {bk ct : SL} (hp : ∀ H, Sats H L → p) (h : p → WpS L σ t nx rt bk ct) : WpS L σ t nx rt bk ct := fun H D s hl => h (hp H s) H D s hl
theorem wpe_mono {K' : VL} (h : WpE L σ te K) (m : ∀ v L', K v L' → K' v L') : WpE L σ te K' := fun H Q s q => h H Q s fun v L' H' k => q v L' H' (m v L' k)
theorem wpt_mono {K K' : Bool → List As → Prop} (h : WpT L σ tt K) (m : ∀ v L', K v L' → K' v L') : WpT L σ tt K' := fun H Q s q => h H Q s fun v L' H' k => q v L' H' (m v L' k)
/-! ### expressions -/
theorem wpe_var {i : Nat} (h : σ[i]? = some (some v)) (k : K v L) : WpE L σ (tVar i) K := fun H _ s q => ⟨v, h, q v L H k s⟩
theorem wpe_c (k : K v L) : WpE L σ (tC v) K := fun H _ s q => q v L H k s
theorem wpe_op (h : WpE L σ ta fun x L1 => WpE L1 σ tb fun y L2 => WpR L2 r x y K) : WpE L σ (tOp r ta tb) K := fun H Q s q =>
  h H _ s fun x L1 H1 k1 s1 => k1 H1 _ s1 fun y L2 H2 k2 s2 => k2 H2 Q s2 q
theorem wpe_un {r : V → Hp → VK → Prop} (h : WpE L σ ta fun x L1 => WpU L1 r x K) : WpE L σ (tUn r ta) K := fun H Q s q => h H _ s fun x L1 H1 k1 s1 => k1 H1 Q s1 q
theorem wpe_cb {ta : TA} {r : List V → Hp → VK → Prop} (h : WpA L σ ta fun vs L1 => WpC L1 r vs K) : WpE L σ (tCB r ta) K := fun H Q s q => h H _ s fun x L1 H1 k1 s1 => k1 H1 Q s1 q
theorem wpe_if (h : WpT L σ tt fun b L1 => if b = true then WpE L1 σ ta K else WpE L1 σ tb K) : WpE L σ (tIf tt ta tb) K := fun H Q s q =>
  h H _ s fun b L1 H1 k1 s1 => by
    cases b with
    | true => exact (show WpE L1 σ ta K from k1) H1 Q s1 q
    | false => exact (show WpE L1 σ tb K from k1) H1 Q s1 q
theorem wpe_andV (h : WpE L σ ta fun x L1 => WB x L1 fun c L1 => if c = true then WpE L1 σ tb K else K (.bl false) L1) : WpE L σ (tAndV ta tb) K := fun H Q s q =>
  h H _ s fun x L1 H1 ⟨c, e, k1⟩ s1 => ⟨c, e, by
    cases c with
    | true => exact (show WpE L1 σ tb K from k1) H1 Q s1 q
    | false => exact q _ _ _ k1 s1⟩
theorem wpe_orV (h : WpE L σ ta fun x L1 => WB x L1 fun c L1 => if c = true then K (.bl true) L1 else WpE L1 σ tb K) : WpE L σ (tOrV ta tb) K := fun H Q s q =>
  h H _ s fun x L1 H1 ⟨c, e, k1⟩ s1 => ⟨c, e, by
    cases c with
    | true => exact q _ _ _ k1 s1
    | false => exact (show WpE L1 σ tb K from k1) H1 Q s1 q⟩
theorem wpe_notV (h : WpE L σ ta fun x L1 => WB x L1 fun c L1 => K (.bl (!c)) L1) : WpE L σ (tNotV ta) K := fun H Q s q => h H _ s fun x L1 H1 ⟨c, e, k1⟩ s1 => ⟨c, e, q _ _ _ k1 s1⟩
theorem wpe_chain (h : WpE L σ ta fun x L1 => WpE L1 σ tb fun y L2 => WpR L2 r x y fun z L3 => WB z L3 fun k L3 => if k = true then WpE L3 σ tc fun w L4 => WpR L4 r' y w K else K (.bl false) L3) : WpE L σ (tChain r r' ta tb tc) K := fun H Q s q =>
  h H _ s fun x L1 H1 k1 s1 => k1 H1 _ s1 fun y L2 H2 k2 s2 => k2 H2 _ s2 fun z L3 H3 ⟨k, e, k3⟩ s3 => ⟨k, e, by
    cases k with
    | true => exact (show WpE L3 σ tc fun w L4 => WpR L4 r' y w K from k3) H3 _ s3 fun w L4 H4 k4 s4 => k4 H4 Q s4 q
    | false => exact q _ _ _ k3 s3⟩
theorem wpa_nil {K : List V → List As → Prop} (k : K [] L) : WpA L σ tNil K := fun H _ s q => q [] L H k s
theorem wpa_cons {K : List V → List As → Prop} {tr : TA} (h : WpE L σ ta fun x L1 => WpA L1 σ tr fun xs L2 => K (x :: xs) L2) : WpA L σ (tCons ta tr) K := fun H Q s q =>
  h H _ s fun x L1 H1 k1 s1 => k1 H1 _ s1 fun xs L2 H2 k2 s2 => q _ L2 H2 k2 s2
theorem wpe_tup {ta : TA} (h : WpA L σ ta fun vs L1 => vs.length ≤ sizeLine ∧ ∀ p, K (.ref p) (Sh p (.tup vs) :: L1)) : WpE L σ (tTup ta) K := fun H Q s q =>
  h H _ s fun vs L1 H1 ⟨z, k1⟩ s1 => ⟨z, fun p hp => q _ _ _ (k1 p) ((Ent.sh .here).ap (s1.new hp))⟩
theorem wpe_lst {ta : TA} (h : WpA L σ ta fun vs L1 => vs.length ≤ sizeLine ∧ ∀ p, K (.ref p) (cell p (.lst vs) :: L1)) : WpE L σ (tLst ta) K := fun H Q s q =>
  h H _ s fun vs L1 H1 ⟨z, k1⟩ s1 => ⟨z, fun p hp => q _ _ _ (k1 p) (s1.new hp)⟩
theorem wpe_dnew (h : ∀ p, K (.ref p) (cell p (.dK []) :: L)) : WpE L σ tDNewK K := fun H Q s q p hp => q _ _ _ (h p) (s.new hp)
/-! calls -/
/-- f(e, ..): what is wished of an exception by the slots -/
def tCallF (sp : Sp) (E : St → XK) (t : TA) : TE := fun σ H Q => t σ H fun vs H1 => sp vs H1 Q (E σ)
def tMethF (C : Addr) (m : Str) (sp : Sp) (E : St → XK) (ta : TE) (t : TA) : TE := fun σ H Q => ta σ H fun x H1 => ∃ a dx fs, x = .ref a ∧ H1 a = some (.ins C dx fs) ∧ fs.lookup m = none ∧ t σ H1 fun vs H2 => sp (x :: vs) H2 Q (E σ)
def tMakeF (C : Addr) (sp : Sp) (E : St → XK) (t : TA) : TE := fun σ H Q => t σ H fun vs H1 => ∀ x dx, H1 x = none → H1 dx = none → dx ≠ x →
  sp (.ref x :: vs) (upd (upd H1 dx (.own x)) x (.ins C dx [])) (fun v H2 => v = .non ∧ Q (.ref x) H2) (E σ)
theorem wpe_call {sp : Sp} {E : St → XK} {ta : TA} (le : LE KE (E σ)) (h : WpA L σ ta fun vs L1 => WpF L1 sp vs K KE) : WpE L σ (tCallF sp E ta) K := fun H Q s q =>
  h H _ s fun vs L1 H1 k1 s1 => k1 H1 Q (E σ) s1 q le
/-- an instance of the class at C stands at a, without an attribute m -/
def IsI (L : List As) (a C : Addr) (m : Str) : Prop := ∀ H, Sats H L → ∃ dx fs, H a = some (.ins C dx fs) ∧ fs.lookup m = none
theorem wpe_meth {sp : Sp} {E : St → XK} {ta : TA} {te : TE} {C : Addr} {m : Str} (le : LE KE (E σ)) (h : WpE L σ te fun x L1 => ∃ a, x = .ref a ∧ IsI L1 a C m ∧ WpA L1 σ ta fun vs L2 => WpF L2 sp (.ref a :: vs) K KE) : WpE L σ (tMethF C m sp E te ta) K := fun H Q s q =>
  h H _ s fun x L1 H1 ⟨a, e, i, k1⟩ s1 => by
    obtain ⟨dx, fs, h1, h2⟩ := i H1 s1
    subst e
    exact ⟨a, dx, fs, rfl, h1, h2, k1 H1 _ s1 fun vs L2 H2 k2 s2 => k2 H2 Q (E σ) s2 q le⟩
theorem wpe_make {sp : Sp} {E : St → XK} {ta : TA} {C : Addr} (le : LE KE (E σ)) (h : WpA L σ ta fun vs L1 => ∀ x dx, WpF (cell x (.ins C dx []) :: cell dx (.own x) :: L1) sp (.ref x :: vs) (fun v L2 => v = .non ∧ K (.ref x) L2) KE) : WpE L σ (tMakeF C sp E ta) K := fun H Q s q =>
  h H _ s fun vs L1 H1 k1 s1 x dx nx nd ne => by
    refine k1 x dx _ _ (E σ) ?_ (fun v L2 H2 ⟨e, k2⟩ s2 => ⟨e, q _ _ _ k2 s2⟩) le
    refine Sats.new (s1.new nd) ?_
    rw [upd_ne (Ne.symm ne)]
    exact nx
/-! fields, dicts, items -/
theorem wpe_fld {Kf : PySem.W.Frag} {f : Str} (h : WpE L σ ta fun x L1 => ∃ a C dx fs v, x = .ref a ∧ Has (cell a (.ins C dx fs)) L1 ∧ Cls Kf C ∧ NoAttr Kf C f ∧ fs.lookup f = some v ∧ K v L1) : WpE L σ (tFld Kf ta f) K := fun H Q s q =>
  h H _ s fun x L1 H1 ⟨a, C, dx, fs, v, e, hs, c, n, l, k⟩ s1 => ⟨a, C, dx, fs, v, e, s1.has hs, c, n, l, q _ _ _ k s1⟩
/-- a dict that may be read -/
def HasD (L : List As) (a : Addr) (kvs : List (Key × V)) : Prop := Has (cell a (.dK kvs)) L ∨ ∃ o, Has (cell a (.frz o (.dK kvs))) L
theorem HasD.rd {H : Hp} {a : Addr} {kvs : List (Key × V)} (h : HasD L a kvs) (s : Sats H L) : Rd H a (.dK kvs) := by
  rcases h with h | ⟨o, h⟩
  · exact .inl (s.has h)
  · exact .inr ⟨o, s.has h⟩
theorem wpe_dget (h : WpE L σ ta fun x L1 => WpE L1 σ tb fun y L2 => ∃ a kvs k v, x = .ref a ∧ y = kV k ∧ HasD L2 a kvs ∧ valV kvs k = some v ∧ K v L2) : WpE L σ (tDGet ta tb) K := fun H Q s q =>
  h H _ s fun x L1 H1 k1 s1 => k1 H1 _ s1 fun y L2 H2 ⟨a, kvs, k, v, ex, ey, hd, hv, kk⟩ s2 => ⟨a, v, ex, .inl ⟨kvs, k, hd.rd s2, ey, hv.symm⟩, q _ _ _ kk s2⟩
theorem wpe_din (h : WpE L σ tb fun y L1 => WpE L1 σ ta fun x L2 => ∃ a kvs k, x = .ref a ∧ y = kV k ∧ HasD L2 a kvs ∧ K (.bl (valV kvs k).isSome) L2) : WpE L σ (tDIn tb ta) K := fun H Q s q =>
  h H _ s fun x L1 H1 k1 s1 => k1 H1 _ s1 fun y L2 H2 ⟨a, kvs, k, ex, ey, hd, kk⟩ s2 => ⟨a, _, ex, .inl ⟨kvs, k, hd.rd s2, ey, rfl⟩, q _ _ _ kk s2⟩
theorem wpe_dnotin (h : WpE L σ tb fun y L1 => WpE L1 σ ta fun x L2 => ∃ a kvs k, x = .ref a ∧ y = kV k ∧ HasD L2 a kvs ∧ K (.bl (!(valV kvs k).isSome)) L2) : WpE L σ (tDNotIn tb ta) K := fun H Q s q =>
  h H _ s fun x L1 H1 k1 s1 => k1 H1 _ s1 fun y L2 H2 ⟨a, kvs, k, ex, ey, hd, kk⟩ s2 => ⟨a, _, ex, .inl ⟨kvs, k, hd.rd s2, ey, rfl⟩, q _ _ _ kk s2⟩
theorem wpo_none {K : Option Int → List As → Prop} (k : K none L) : WpO L σ tNoPart K := fun H _ s q => q none L H k s
theorem wpo_some {K : Option Int → List As → Prop} (h : WpE L σ ta fun x L1 => WI x L1 fun i L1 => K (some i) L1) : WpO L σ (tPart ta) K := fun H Q s q => h H _ s fun x L1 H1 ⟨i, e, k⟩ s1 => ⟨i, e, q _ _ _ k s1⟩
theorem wpe_sl {r : V → Option Int → Option Int → Hp → VK → Prop} {to tu : TO} (h : WpE L σ ta fun x L1 => WpO L1 σ to fun l L2 => WpO L2 σ tu fun u L3 => WpSl L3 r x l u K) : WpE L σ (tSl r ta to tu) K := fun H Q s q =>
  h H _ s fun x L1 H1 k1 s1 => k1 H1 _ s1 fun y L2 H2 k2 s2 => k2 H2 _ s2 fun z L3 H3 k3 s3 => k3 H3 Q s3 q
theorem wpe_bm {Kf : PySem.W.Frag} {T : String} {r : V → List V → Hp → VK → Prop} {tx : TA} (h : WpE L σ ta fun x L1 => (∀ H, Sats H L1 → tyV Kf T x H) ∧ WpA L1 σ tx fun vs L2 => WpM L2 r x vs K) : WpE L σ (tBM Kf T r ta tx) K := fun H Q s q =>
  h H _ s fun x L1 H1 ⟨t, k1⟩ s1 => ⟨t H1 s1, k1 H1 _ s1 fun vs L2 H2 k2 s2 => k2 H2 Q s2 q⟩
theorem wpe_bm0 {Kf : PySem.W.Frag} {T : String} {r : V → List V → Hp → VK → Prop} (h : WpE L σ ta fun x L1 => (∀ H, Sats H L1 → tyV Kf T x H) ∧ WpM L1 r x [] K) : WpE L σ (tBM0 Kf T r ta) K := fun H Q s q =>
  h H _ s fun x L1 H1 ⟨t, k1⟩ s1 => ⟨t H1 s1, k1 H1 Q s1 q⟩
/-! ### tests -/
variable {KB : Bool → List As → Prop}
theorem wpt_B (h : WpE L σ te fun x L1 => WB x L1 KB) : WpT L σ (tB te) KB := fun H Q s q => h H _ s fun x L1 H1 ⟨c, e, k⟩ s1 => ⟨c, e, q _ _ _ k s1⟩
theorem wpt_test (h : WpE L σ te fun x L1 => WB x L1 KB) : WpT L σ (tTest te) KB := fun H Q s q => h H _ s fun x L1 H1 ⟨c, e, k⟩ s1 => ⟨c, e, q _ _ _ k s1⟩
theorem wpt_and (h : WpT L σ tA fun c L1 => if c = true then WpT L1 σ tB' KB else KB false L1) : WpT L σ (tAnd tA tB') KB := fun H Q s q =>
  h H _ s fun c L1 H1 k1 s1 => by
    cases c with
    | true => exact (show WpT L1 σ tB' KB from k1) H1 Q s1 q
    | false => exact q _ _ _ (show KB false L1 from k1) s1
theorem wpt_or (h : WpT L σ tA fun c L1 => if c = true then KB true L1 else WpT L1 σ tB' KB) : WpT L σ (tOr tA tB') KB := fun H Q s q =>
  h H _ s fun c L1 H1 k1 s1 => by
    cases c with
    | true => exact q _ _ _ (show KB true L1 from k1) s1
    | false => exact (show WpT L1 σ tB' KB from k1) H1 Q s1 q
theorem wpt_not (h : WpT L σ tA fun c L1 => KB (!c) L1) : WpT L σ (tNot tA) KB := fun H Q s q => h H _ s fun c L1 H1 k s1 => q _ _ _ k s1
theorem wpt_yes (k : KB true L) : WpT L σ tYes KB := fun H _ s q => q true L H k s
theorem wpt_tru {Kf : PySem.W.Frag} (h : WpE L σ te fun x L1 => ∃ k, (∀ H, Sats H L1 → TruV Kf x H k) ∧ KB k L1) : WpT L σ (fun σ H Q => te σ H fun x H' => ∃ k, TruV Kf x H' k ∧ Q k H') KB := fun H Q s q =>
  h H _ s fun x L1 H1 ⟨k, t, kk⟩ s1 => ⟨k, t H1 s1, q _ _ _ kk s1⟩
/-- the very thing, own or shared -/
inductive HasX (L : List As) (a : Addr) (o : HO) : Prop
  | c (h : Has (cell a o) L)
  | s (h : Has (Sh a o) L)
  | m {l : List (Addr × HO)} (h : Has (Shs l) L) (e : (a, o) ∈ l)
theorem HasX.eq {L : List As} {H : Hp} {a : Addr} {o : HO} (h : HasX L a o) (s : Sats H L) : H a = some o := by
  cases h with
  | c h => exact s.has h
  | s h => exact s.sh h
  | m h e => exact s.shs h e
theorem HasX.there {A : As} {L : List As} {a : Addr} {o : HO} (h : HasX L a o) : HasX (A :: L) a o := by
  cases h with
  | c h => exact .c (.there h)
  | s h => exact .s (.there h)
  | m h e => exact .m (.there h) e
/-- a list that may be read -/
inductive HasL (Kf : PySem.W.Frag) (L : List As) (a : Addr) (xs : List V) : Prop
  | q (h : Has (Sq Kf a xs) L)
  | x (h : HasX L a (.lst xs))
theorem HasL.c {Kf : PySem.W.Frag} {L : List As} {a : Addr} {xs : List V} (h : Has (cell a (.lst xs)) L) : HasL Kf L a xs := .x (.c h)
theorem HasL.s {Kf : PySem.W.Frag} {L : List As} {a : Addr} {xs : List V} (h : Has (Sh a (.lst xs)) L) : HasL Kf L a xs := .x (.s h)
theorem HasL.m {Kf : PySem.W.Frag} {L : List As} {a : Addr} {xs : List V} {l : List (Addr × HO)} (h : Has (Shs l) L) (e : (a, HO.lst xs) ∈ l) : HasL Kf L a xs := .x (.m h e)
theorem HasL.sq {Kf : PySem.W.Frag} {L : List As} {H : Hp} {a : Addr} {xs : List V} (h : HasL Kf L a xs) (s : Sats H L) : SqL Kf H a xs := by
  cases h with
  | q h => exact s.sq h
  | x h => exact SqL.of (h.eq s)
theorem HasL.there {Kf : PySem.W.Frag} {A : As} {L : List As} {a : Addr} {xs : List V} (h : HasL Kf L a xs) : HasL Kf (A :: L) a xs := by
  cases h with
  | q h => exact .q (.there h)
  | x h => exact .x h.there
/-! ### targets -/
theorem wpg_name {i : Nat} {K : SL} (k : K (σ.set i (some x)) L) : WpG L σ (gName i) x K := fun H _ s q => q _ L H k s
theorem wpg_tup {Kf : PySem.W.Frag} {n : Nat} {t : TGs} {a : Addr} {xs : List V} {K : SL} (h : HasX L a (.tup xs)) (hn : xs.length = n) (k : WpGs L σ t xs K) : WpG L σ (gTup Kf n t) (.ref a) K := fun H Q s q => ⟨a, xs, rfl, SqT.of (h.eq s), hn, k H Q s q⟩
theorem wpgs_nil {K : SL} (k : K σ L) : WpGs L σ gNil [] K := fun H _ s q => ⟨rfl, q _ L H k s⟩
theorem wpgs_cons {g : TG} {u : TGs} {vs : List V} {K : SL} (h : WpG L σ g x fun σ1 L1 => WpGs L1 σ1 u vs K) : WpGs L σ (gCons g u) (x :: vs) K := fun H Q s q => ⟨x, vs, rfl, h H _ s fun σ1 L1 H1 k1 s1 => k1 H1 Q s1 q⟩
end
section
variable {L L1 : List As} {σ : St} {te ta tb tc : TE} {tt : TT} {t u : TS} {nx bk ct : SL} {rt : VL} {x y v : V}
/-! ### statements -/
theorem Lift.withNx {D : Ends} {nx' : SL} {n : St → Hp → Prop} (l : Lift nx rt bk ct D) (h : ∀ σ L H, nx' σ L → Sats H L → n σ H) : Lift nx' rt bk ct { D with nx := n } := ⟨h, l.rt, l.bk, l.ct⟩
theorem wps_seq (h : WpS L σ t (fun σ1 L1 => WpS L1 σ1 u nx rt bk ct) rt bk ct) : WpS L σ (tSeq t u) nx rt bk ct := fun H D s l =>
  h H _ s (l.withNx fun σ1 L1 H1 k s1 => k H1 D s1 l)
theorem wps_cut (Mid : SL) (h : WpS L σ t Mid rt bk ct) (h2 : ∀ σ1 L1, Mid σ1 L1 → WpS L1 σ1 u nx rt bk ct) : WpS L σ (tSeq t u) nx rt bk ct := fun H D s l =>
  h H _ s (l.withNx fun σ1 L1 H1 k s1 => h2 σ1 L1 k H1 D s1 l)
theorem wps_asg {i : Nat} (h : WpE L σ te fun v L1 => nx (σ.set i (some v)) L1) : WpS L σ (tAsg te (gName i)) nx rt bk ct := fun H D s l =>
  h H _ s fun v L1 H1 k s1 => l.nx _ _ _ k s1
theorem wps_asgG {g : TG} (h : WpE L σ te fun v L1 => WpG L1 σ g v nx) : WpS L σ (tAsg te g) nx rt bk ct := fun H D s l =>
  h H _ s fun v L1 H1 k s1 => k H1 _ s1 fun σ' L' H' k2 s2 => l.nx _ _ _ k2 s2
theorem wps_drop (h : WpE L σ te fun v L1 => nx σ L1) : WpS L σ (tDrop te) nx rt bk ct := fun H D s l => h H _ s fun v L1 H1 k s1 => l.nx _ _ _ k s1
theorem wps_ret (h : WpE L σ te rt) : WpS L σ (tRet te) nx rt bk ct := fun H D s l => h H _ s fun v L1 H1 k s1 => l.rt _ _ _ k s1
theorem wps_retN (h : rt .non L) : WpS L σ tRetN nx rt bk ct := fun H D s l => l.rt _ _ _ h s
theorem wps_next (h : nx σ L) : WpS L σ tNext nx rt bk ct := fun H D s l => l.nx _ _ _ h s
theorem wps_brk (h : bk σ L) : WpS L σ tBreak nx rt bk ct := fun H D s l => l.bk _ _ _ h s
theorem wps_cont (h : ct σ L) : WpS L σ tCont nx rt bk ct := fun H D s l => l.ct _ _ _ h s
theorem wps_if (h : WpT L σ tt fun b L1 => if b = true then WpS L1 σ t nx rt bk ct else WpS L1 σ u nx rt bk ct) : WpS L σ (tIfS tt t u) nx rt bk ct := fun H D s l =>
  h H _ s fun b L1 H1 k s1 => by
    cases b with
    | true => exact (show WpS L1 σ t nx rt bk ct from k) H1 D s1 l
    | false => exact (show WpS L1 σ u nx rt bk ct from k) H1 D s1 l
theorem wps_fld {Kf : PySem.W.Frag} {f : Str} (h : WpE L σ tb fun y L1 => WpE L1 σ ta fun x L2 => ∃ a C dx fs L3, x = .ref a ∧ Cls Kf C ∧ NoAttr Kf C f ∧ fs.length < 1000 ∧ Upd (cell a (.ins C dx fs)) (cell a (.ins C dx (putF f y fs))) L2 L3 ∧ nx σ L3) :
    WpS L σ (sFld Kf ta tb f) nx rt bk ct := fun H D s l =>
  h H _ s fun y L1 H1 k1 s1 => k1 H1 _ s1 fun x L2 H2 ⟨a, C, dx, fs, L3, e, c, n, z, up, k⟩ s2 => ⟨a, C, dx, fs, e, s2.upd_mut up, c, n, z, l.nx _ _ _ k (s2.upd up)⟩
theorem wps_dput (h : WpE L σ tc fun v L1 => WpE L1 σ ta fun x L2 => WpE L2 σ tb fun y L3 => ∃ a kvs k L4, x = .ref a ∧ y = kV k ∧ kvs.length < sizeLine ∧ Upd (cell a (.dK kvs)) (cell a (.dK (putK kvs k v))) L3 L4 ∧ nx σ L4) :
    WpS L σ (sDPut ta tb tc) nx rt bk ct := fun H D s l =>
  h H _ s fun v L1 H1 k1 s1 => k1 H1 _ s1 fun x L2 H2 k2 s2 => k2 H2 _ s2 fun y L3 H3 ⟨a, kvs, k, L4, ex, ey, z, up, kk⟩ s3 => ⟨a, _, ex, .inl ⟨kvs, k, s3.upd_mut up, ey, z, rfl⟩, l.nx _ _ _ kk (s3.upd up)⟩
/-- a statement under the lock of the thing at d -/
theorem wps_lock {d : Addr} {o : HO} (L1 : Obj → List As) (mu : Mut (some o)) (up : ∀ od, Upd (cell d o) (cell d (.frz od o)) L (L1 od))
    (h : ∀ od, WpS (L1 od) σ t (fun σ' L' => ∃ L'', Upd (cell d (.frz od o)) (cell d o) L' L'' ∧ nx σ' L'') (fun v L' => ∃ L'', Upd (cell d (.frz od o)) (cell d o) L' L'' ∧ rt v L'')
      (fun σ' L' => ∃ L'', Upd (cell d (.frz od o)) (cell d o) L' L'' ∧ bk σ' L'') (fun σ' L' => ∃ L'', Upd (cell d (.frz od o)) (cell d o) L' L'' ∧ ct σ' L'')) : WpS L σ (tLock t) nx rt bk ct := fun H D s l =>
  ⟨d, o, s.upd_mut (up default), mu, fun od => h od _ _ (s.upd (up od)) ⟨fun σ' L' H' ⟨L'', u', k⟩ s' => ⟨s'.upd_mut u', l.nx _ _ _ k (s'.upd u')⟩, fun σ' L' H' ⟨L'', u', k⟩ s' => ⟨s'.upd_mut u', l.rt _ _ _ k (s'.upd u')⟩,
    fun σ' L' H' ⟨L'', u', k⟩ s' => ⟨s'.upd_mut u', l.bk _ _ _ k (s'.upd u')⟩, fun σ' L' H' ⟨L'', u', k⟩ s' => ⟨s'.upd_mut u', l.ct _ _ _ k (s'.upd u')⟩⟩⟩
theorem wpe_lock {K : VL} {d : Addr} {o : HO} (L1 : Obj → List As) (mu : Mut (some o)) (up : ∀ od, Upd (cell d o) (cell d (.frz od o)) L (L1 od))
    (h : ∀ od, WpE (L1 od) σ te (fun v L' => ∃ L'', Upd (cell d (.frz od o)) (cell d o) L' L'' ∧ K v L'')) : WpE L σ (tLockE te) K := fun H Q s q =>
  ⟨d, o, s.upd_mut (up default), mu, fun od => h od _ _ (s.upd (up od)) fun v L' H' ⟨L'', u', k⟩ s' => ⟨s'.upd_mut u', q _ _ _ k (s'.upd u')⟩⟩
/-! ### what is walked -/
structure Iter (J : It) (n : Nat) (Iv : List As → Prop) (yl : Nat → V → List As → List As → Prop) : Prop where
  go : ∀ i L H, i < n → Iv L → Sats H L → J.go i H
  stop : ∀ L H, Iv L → Sats H L → J.stop n H
  yld : ∀ i L H x H', i < n → Iv L → Sats H L → J.yld i H x H' → ∃ L', yl i x L L' ∧ Sats H' L'
def WpI (L : List As) (σ : St) (wi : TI) (KI : It → List As → Prop) : Prop := ∀ (H : Hp) (R : It → Hp → Prop), Sats H L → (∀ J L' H', KI J L' → Sats H' L' → R J H') → wi σ H R
theorem wps_for {wi : TI} {g : TG} {tb : TS} (h : WpI L σ wi fun J L0 => ∃ n Iv yl, Iter J n Iv yl ∧ ∃ Pv : Nat → St → List As → Prop, Pv 0 σ L0 ∧ (∀ i σ' L', i ≤ n → Pv i σ' L' → Iv L') ∧
      (∀ i σ' L' x L'', i < n → Pv i σ' L' → yl i x L' L'' → WpG L'' σ' g x fun σ2 L2 => WpS L2 σ2 tb (UpS (Pv (i + 1))) rt nx (UpS (Pv (i + 1)))) ∧ ∀ σ' L', Pv n σ' L' → nx σ' L') : WpS L σ (tFor wi g tb) nx rt bk ct := fun H D s l =>
  h H _ s fun J L0 H0 ⟨n, Iv, yl, it, Pv, p0, iv, turn, done⟩ s0 => by
    refine ⟨fun i m σ H => m = n - i ∧ i ≤ n ∧ ∃ L, Sats H L ∧ Pv i σ L, ⟨n, by omega, Nat.zero_le _, L0, s0, p0⟩, ?_⟩
    rintro i m σ1 H1 ⟨rfl, hi, L1, s1, p1⟩
    by_cases hlt : i < n
    · refine .inr ⟨it.go i L1 H1 hlt (iv i _ _ hi p1) s1, fun σ' H' => ∃ L, Sats H' L ∧ Pv (i + 1) σ' L, fun σ' H' ⟨L, sL, pL⟩ => ⟨_, by omega, rfl, hlt, L, sL, pL⟩, fun x H' hy => ?_⟩
      obtain ⟨L2, yl2, s2⟩ := it.yld i L1 H1 x H' hlt (iv i _ _ hi p1) s1 hy
      refine turn i σ1 L1 x L2 hlt p1 yl2 H' _ s2 fun σ2 L3 H3 k s3 => ?_
      exact k H3 _ s3 ⟨fun σ4 L4 H4 ⟨L5, e, p⟩ s4 => ⟨L5, e.ap s4, p⟩, l.rt, l.nx, fun σ4 L4 H4 ⟨L5, e, p⟩ s4 => ⟨L5, e.ap s4, p⟩⟩
    · have e : i = n := Nat.le_antisymm hi (Nat.le_of_not_lt hlt)
      subst e
      exact .inl ⟨it.stop L1 H1 (iv i _ _ hi p1) s1, l.nx _ _ _ (done _ _ p1) s1⟩
theorem iter_list {Kf : PySem.W.Frag} {a : Addr} {xs : List V} : Iter (Itl Kf a) xs.length (fun L => HasL Kf L a xs) (fun i x L L' => xs[i]? = some x ∧ L' = L) :=
  ⟨fun i L H hi h s => ⟨xs, xs[i], h.sq s, List.getElem?_eq_getElem hi⟩, fun L H h s => ⟨xs, h.sq s, Nat.le_refl _⟩, fun i L H x H' hi h s ⟨e, q⟩ => ⟨L, ⟨q xs (h.sq s), rfl⟩, by rw [e]; exact s⟩⟩
theorem iter_tup {Kf : PySem.W.Frag} {a : Addr} {xs : List V} : Iter (Itt Kf a) xs.length (fun L => HasX L a (.tup xs)) (fun i x L L' => xs[i]? = some x ∧ L' = L) :=
  ⟨fun i L H hi h s => ⟨xs, xs[i], SqT.of (h.eq s), List.getElem?_eq_getElem hi⟩, fun L H h s => ⟨xs, SqT.of (h.eq s), Nat.le_refl _⟩, fun i L H x H' hi h s ⟨e, q⟩ => ⟨L, ⟨q xs (SqT.of (h.eq s)), rfl⟩, by rw [e]; exact s⟩⟩
theorem iter_range {lo : Int} {n : Nat} : Iter (Itr lo n) n (fun _ => True) (fun i x L L' => x = .int (lo + i) ∧ L' = L) :=
  ⟨fun i L H hi h s => hi, fun L H h s => Nat.le_refl _, fun i L H x H' hi h s ⟨e, q⟩ => ⟨L, ⟨q, rfl⟩, by rw [e]; exact s⟩⟩
theorem wpi_list {Kf : PySem.W.Frag} {KI : It → List As → Prop} (h : WpE L σ te fun x L1 => ∃ a xs, x = .ref a ∧ HasL Kf L1 a xs ∧ KI (Itl Kf a) L1) : WpI L σ (iList Kf te) KI := fun H R s q =>
  h H _ s fun x L1 H1 ⟨a, xs, e, hl, k⟩ s1 => ⟨a, e, ⟨xs, hl.sq s1⟩, q _ _ _ k s1⟩
theorem wpi_tup {Kf : PySem.W.Frag} {KI : It → List As → Prop} (h : WpE L σ te fun x L1 => ∃ a xs, x = .ref a ∧ HasX L1 a (.tup xs) ∧ KI (Itt Kf a) L1) : WpI L σ (iTup Kf te) KI := fun H R s q =>
  h H _ s fun x L1 H1 ⟨a, xs, e, hl, k⟩ s1 => ⟨a, e, ⟨xs, SqT.of (hl.eq s1)⟩, q _ _ _ k s1⟩
theorem wpi_rng1 {KI : It → List As → Prop} {ta : TA} (h : WpA L σ ta fun vs L1 => ∃ j : Int, vs = [.int j] ∧ -(2 ^ 62) ≤ j ∧ j < 2 ^ 62 ∧ KI (Itr 0 j.toNat) L1) : WpI L σ (iRng1 ta) KI := fun H R s q =>
  h H _ s fun x L1 H1 ⟨j, e, a, b, k⟩ s1 => ⟨j, e, a, b, q _ _ _ k s1⟩
theorem wpi_rng2 {KI : It → List As → Prop} {ta : TA} (h : WpA L σ ta fun vs L1 => ∃ i j : Int, vs = [.int i, .int j] ∧ (-(2 ^ 62) ≤ i ∧ i < 2 ^ 62 ∧ -(2 ^ 62) ≤ j ∧ j < 2 ^ 62) ∧ KI (Itr i (j - i).toNat) L1) : WpI L σ (iRng2 ta) KI := fun H R s q =>
  h H _ s fun x L1 H1 ⟨i, j, e, a, k⟩ s1 => ⟨i, j, e, a, q _ _ _ k s1⟩
/-- for x in a list that stands at a -/
theorem wps_forL {Kf : PySem.W.Frag} {a : Addr} {xs : List V} {g : TG} {tb : TS} {i0 : Nat} (hv : σ[i0]? = some (some (.ref a))) (Pv : Nat → St → List As → Prop) (h0 : ∃ L0, Ent L L0 ∧ Pv 0 σ L0) (hl0 : HasL Kf L a xs) (hl : ∀ i σ' L', i ≤ xs.length → Pv i σ' L' → HasL Kf L' a xs)
    (turn : ∀ i σ' L' x, xs[i]? = some x → Pv i σ' L' → WpG L' σ' g x fun σ2 L2 => WpS L2 σ2 tb (UpS (Pv (i + 1))) rt nx (UpS (Pv (i + 1)))) (done : ∀ σ' L', Pv xs.length σ' L' → nx σ' L') :
    WpS L σ (tFor (iList Kf (tVar i0)) g tb) nx rt bk ct := by
  obtain ⟨L0, e0, p0⟩ := h0
  refine wps_ent e0 (wps_for (wpi_list (wpe_var hv ⟨a, xs, rfl, hl 0 _ _ (Nat.zero_le _) p0, xs.length, _, _, iter_list, Pv, p0, hl, fun i σ' L' x L'' hi p ⟨y, e⟩ => ?_, done⟩)))
  subst e
  exact turn i σ' _ x y p
theorem wps_while {tb : TS} (Pv : Nat → St → List As → Prop) (m0 : Nat) (h0 : ∃ L0, Ent L L0 ∧ Pv m0 σ L0)
    (turn : ∀ m σ' L', Pv m σ' L' → WpT L' σ' tt fun b L2 => if b = true then WpS L2 σ' tb (fun σ3 L3 => ∃ m', m' < m ∧ UpS (Pv m') σ3 L3) rt nx (fun σ3 L3 => ∃ m', m' < m ∧ UpS (Pv m') σ3 L3) else nx σ' L2) :
    WpS L σ (tWhile tt tb) nx rt bk ct := fun H D s l => by
  obtain ⟨L0, e0, p0⟩ := h0
  refine ⟨fun m σ H => ∃ L, Sats H L ∧ Pv m σ L, ⟨m0, L0, e0.ap s, p0⟩, fun m σ1 H1 ⟨L1, s1, p1⟩ => ?_⟩
  refine turn m σ1 L1 p1 H1 _ s1 fun b L2 H2 k s2 => ?_
  cases b with
  | true =>
    refine ⟨fun σ' H' => ∃ m', m' < m ∧ ∃ L, Sats H' L ∧ Pv m' σ' L, fun σ' H' ⟨m', hm, L, sL, pL⟩ => ⟨m', hm, L, sL, pL⟩, (show WpS L2 σ1 tb _ _ _ _ from k) H2 _ s2 ⟨?_, l.rt, l.nx, ?_⟩⟩
    · exact fun σ3 L3 H3 ⟨m', hm, L4, e, p⟩ s3 => ⟨m', hm, L4, e.ap s3, p⟩
    · exact fun σ3 L3 H3 ⟨m', hm, L4, e, p⟩ s3 => ⟨m', hm, L4, e.ap s3, p⟩
  | false => exact l.nx _ _ _ (show nx σ1 L2 from k) s2
/-- [elt for .. in ..] -/
theorem wpe_lc {wi : TI} {g : TG} {vs : List Nat} {K : VL} (h : WpI L σ wi fun J L0 => ∃ n Iv yl, Iter J n Iv yl ∧ n ≤ 1000000 ∧ ∃ Pv : Nat → List V → List As → Prop, Pv 0 [] L0 ∧ (∀ D i acc L', i ≤ n → Pv i acc L' → Iv (cell D (.lst acc) :: L') ∧ acc.length ≤ i) ∧
      (∀ D i acc L' x L'', i < n → Pv i acc L' → yl i x (cell D (.lst acc) :: L') L'' → WpG L'' (wipe σ vs) g x fun σ2 L2 => wipe σ2 vs = wipe σ vs ∧ WpT L2 σ2 tt fun b L3 =>
        if b = true then WpE L3 σ2 te fun y L4 => ∃ L5, Ent L4 (cell D (.lst acc) :: L5) ∧ Pv (i + 1) (acc ++ [y]) L5 else ∃ L5, Ent L3 (cell D (.lst acc) :: L5) ∧ Pv (i + 1) acc L5) ∧
      ∀ D acc L', Pv n acc L' → K (.ref D) (cell D (.lst acc) :: L')) : WpE L σ (tLc wi g tt te vs) K := fun H Q s q =>
  h H _ s fun J L0 H0 ⟨n, Iv, yl, it, hn, Pv, p0, iv, turn, done⟩ s0 D nD => by
    refine ⟨fun i m H => m = n - i ∧ i ≤ n ∧ ∃ acc L', Sats H (cell D (.lst acc) :: L') ∧ Pv i acc L', ⟨n, by omega, Nat.zero_le _, [], L0, s0.new nD, p0⟩, ?_⟩
    rintro i m H1 ⟨rfl, hi, acc, L1, s1, p1⟩
    obtain ⟨iv1, la⟩ := iv D i acc L1 hi p1
    by_cases hlt : i < n
    · refine .inr ⟨it.go i _ H1 hlt iv1 s1, fun H' => ∃ acc L', Sats H' (cell D (.lst acc) :: L') ∧ Pv (i + 1) acc L', fun H' ⟨acc', L', s', p'⟩ => ⟨_, by omega, rfl, hlt, acc', L', s', p'⟩, fun x H' hy => ?_⟩
      obtain ⟨L2, yl2, s2⟩ := it.yld i _ H1 x H' hlt iv1 s1 hy
      refine turn D i acc L1 x L2 hlt p1 yl2 H' _ s2 fun σ2 L3 H3 ⟨hw, k⟩ s3 => ⟨hw, ?_⟩
      refine k H3 _ s3 fun b L4 H4 k4 s4 => ?_
      cases b with
      | true =>
        refine (show WpE L4 σ2 te _ from k4) H4 _ s4 fun y L5 H5 ⟨L6, e, p⟩ s5 => ?_
        have s6 := e.ap s5
        exact ⟨acc, s6.get, Nat.lt_of_le_of_lt la (by rw [sizeLine_eq]; omega), acc ++ [y], L6, s6.put, p⟩
      | false =>
        obtain ⟨L6, e, p⟩ := (show ∃ L5, Ent L4 (cell D (.lst acc) :: L5) ∧ Pv (i + 1) acc L5 from k4)
        exact ⟨acc, L6, e.ap s4, p⟩
    · have e : i = n := Nat.le_antisymm hi (Nat.le_of_not_lt hlt)
      subst e
      exact .inl ⟨it.stop _ H1 iv1 s1, q _ _ _ (done D acc L1 p1) s1⟩
end
end Q

namespace Q
open PySem PySem.Spec L2
open PyProof.Rows (envOfC)
/-- the def at f, with the parameters ps, keeps the promise B, by at most level k -/
structure Ok (P : Program) (w : World) (K : PySem.W.Frag) (mg : Str → Option Value) (base : Heap) (k : Nat) (f : Addr) (B : Bd) : Prop where
  fn : FnR P w K mg base (L2.CX P w) k f (Spc B)
  kp : PySem.W.keepIn K (.ref f) = true
theorem Ok.up {P : Program} {w : World} {K : PySem.W.Frag} {mg : Str → Option Value} {base : Heap} {j k : Nat} {f : Addr} {B : Bd} (h : Ok P w K mg base j f B) (le : j ≤ k) : Ok P w K mg base k f B := ⟨h.fn.mono le, h.kp⟩
/-! ### calls by positional promises, what is wished by the slots -/
theorem passAt0 {X : Cx} (σ : L2.St) : PassesAt (L2.CX X.prog X.w) X σ E0 := fun _ _ _ _ _ _ h => by
  obtain ⟨_, _, _, _, _, _, _, _, _, _, _, _, z⟩ := h
  exact z.elim
section
variable {X : Cx} {k : Nat} {f C : Addr} {sp : Sp} {E : L2.St → XK} {x m : Str} {p pos apos : Pos} {e o : Expr} {es : List Expr} {ta : TE} {t : TA}
theorem run_fnF {pins : List (Addr × Obj)} {σ : L2.St} {H : Hp} {s : Shared} {Q : VK} {us : List Value} {vs : List V} (F : FnR X.prog X.w X.K X.mg X.base (L2.CX X.prog X.w) k f sp) (hr : Room k X.A) (hx : PassesAt (L2.CX X.prog X.w) X σ (E σ))
    (I : Inv X pins σ H s) (r : Vals vs us) (h : sp vs H Q (E σ)) : wpAny (model X.prog X.w) X.A (call (.ref f) us) (EP X pins σ Q) X.xe s := by
  refine wpAny_call (codeAny_mono (F X.A X.stack s H us vs Q (E σ) hr I.env0 r h) fun r s' hq => ?_)
  cases r with
  | error e => exact hx pins H s e s' I hq
  | ok fl =>
    cases fl with
    | ret u => exact I.after hq
    | next => exact False.elim hq
    | brk => exact False.elim hq
    | cont => exact False.elim hq
theorem pe_callF {B : Bd} (F : Ok X.prog X.w X.K X.mg X.base k f B) (hr : Room k X.A) (hm : X.mg x = some (.ref f)) (hx : ∀ σ, PassesAt (L2.CX X.prog X.w) X σ (E σ))
    (ha : PA X (e :: es) t) (hg : Gl X x := by rfl) (hdb : (x == ("__debug__" : Str)) = false := by decide) (he : starEach (e :: es) X.env = (false, eval e X.env) :: starEach es X.env := by rfl) (hpl : (backTo pos (starEach es X.env)).any (·.1) = false := by rfl) :
    PE X (.Call (.Name x p) (e :: es) [] pos) (tCallF (Spc B) E t) := by
  refine ⟨fun pins s σ H Q I h => ?_⟩
  refine wpAny_Call_Name_kw (ld_glob I hg hm ?_ hdb)
  refine PySem.W.callWith_K (h₀ := X.base) I.ok.mod.kin F.kp (thn (ha.run pos pins s σ H _ I h) fun us s1 ⟨vs, H1, I1, r, q⟩ => ⟨I1.kIn, ?_⟩) he hpl
  exact run_fnF F.fn hr (hx σ) I1 r q
theorem pe_callF0 {B : Bd} (F : Ok X.prog X.w X.K X.mg X.base k f B) (hr : Room k X.A) (hm : X.mg x = some (.ref f)) (hx : ∀ σ, PassesAt (L2.CX X.prog X.w) X σ (E σ))
    (hg : Gl X x := by rfl) (hdb : (x == ("__debug__" : Str)) = false := by decide) : PE X (.Call (.Name x p) [] [] pos) (tCallF (Spc B) E tNil) := by
  refine ⟨fun pins s σ H Q I h => ?_⟩
  refine wpAny_Call_Name_kw (ld_glob I hg hm ?_ hdb)
  exact PySem.W.callWith_K0 I.kIn F.kp (run_fnF (us := []) (vs := []) F.fn hr (hx σ) I .nil h)
theorem pe_methF {B : Bd} {pl : Sem Bool} (he : PE X o ta) (c : Cls X.K C) (hm : Meth X.K C m f) (F : Ok X.prog X.w X.K X.mg X.base k f B) (hr : Room k X.A) (hx : ∀ σ, PassesAt (L2.CX X.prog X.w) X σ (E σ)) (ha : PA X (e :: es) t)
    (hst : starEach (e :: es) X.env = (false, eval e X.env) :: starEach es X.env := by rfl) (hpl : (backTo pos (starEach es X.env)).any (·.1) = false := by rfl)
    (ht : eval (.Call (.Attribute o m apos) (e :: es) [] pos) X.env = (do
      let ov ← eval o X.env
      standAt apos.atName
      let (f, first) ← holding [ov] (getMethod ov m pl)
      callWith pos f first (backTo pos (starEach (e :: es) X.env)) (backToKw pos (keywordEach [] X.env))) := by rfl) :
    PE X (.Call (.Attribute o m apos) (e :: es) [] pos) (tMethF C m (Spc B) E ta t) := by
  refine ⟨fun pins s σ H Q I h => ?_⟩
  refine PySem.W.methodCall_KW (pl := pl) (thn (he.run pins s σ H _ I h) fun u s1 ⟨x, H1, I1, rx, a, dx, fs, ex, ea, l, q⟩ => ?_) ht
  subst ex
  obtain rfl : u = Value.ref a := rx
  refine getmeth_ok I1 ea c hm l ?_
  refine PySem.W.callWith_K (first := [.ref a]) (h₀ := X.base) I.ok.mod.kin hm.kp (thn (ha.run pos pins s1 σ H1 _ I1 q) fun us s2 ⟨vs, H2, I2, r, q2⟩ => ⟨I2.kIn, ?_⟩) hst hpl
  exact run_fnF (us := .ref a :: us) (vs := .ref a :: vs) F.fn hr (hx σ) I2 (.cons rfl r) q2
theorem pe_methF0 {B : Bd} {pl : Sem Bool} (he : PE X o ta) (c : Cls X.K C) (hm : Meth X.K C m f) (F : Ok X.prog X.w X.K X.mg X.base k f B) (hr : Room k X.A) (hx : ∀ σ, PassesAt (L2.CX X.prog X.w) X σ (E σ))
    (ht : eval (.Call (.Attribute o m apos) [] [] pos) X.env = (do
      let ov ← eval o X.env
      standAt apos.atName
      let (f, first) ← holding [ov] (getMethod ov m pl)
      callWith pos f first (backTo pos (starEach [] X.env)) (backToKw pos (keywordEach [] X.env))) := by rfl) :
    PE X (.Call (.Attribute o m apos) [] [] pos) (tMethF C m (Spc B) E ta tNil) := by
  refine ⟨fun pins s σ H Q I h => ?_⟩
  refine PySem.W.methodCall_KW (pl := pl) (thn (he.run pins s σ H _ I h) fun u s1 ⟨x, H1, I1, rx, a, dx, fs, ex, ea, l, q⟩ => ?_) ht
  subst ex
  obtain rfl : u = Value.ref a := rx
  refine getmeth_ok I1 ea c hm l ?_
  exact PySem.W.callWith_K0 (first := [.ref a]) I1.kIn hm.kp (run_fnF (us := [.ref a]) (vs := [.ref a]) F.fn hr (hx σ) I1 (.cons rfl .nil) q)
/-- what a callee at the new instance's heap may let out: the instance is new there -/
theorem run_makeF {pins : List (Addr × Obj)} {σ : L2.St} {H : Hp} {s : Shared} {Q : VK} {us : List Value} {vs : List V} (M : Mk X.K C f) (F : FnR X.prog X.w X.K X.mg X.base (L2.CX X.prog X.w) k f sp) (hr : Room (k + 1) X.A)
    (hx : ∀ σ, PassesAt (L2.CX X.prog X.w) X σ (E σ)) (I : Inv X pins σ H s) (r : Vals vs us)
    (h : ∀ x dx, H x = none → H dx = none → dx ≠ x → sp (.ref x :: vs) (upd (upd H dx (.own x)) x (.ins C dx [])) (fun v H2 => v = .non ∧ Q (.ref x) H2) (E σ)) :
    wpAny (model X.prog X.w) X.A (call (.ref C) us) (EP X pins σ Q) X.xe s := by
  have hq := h (s.heap.objs.size + 1) s.heap.objs.size (I.hok.fresh (Nat.le_succ _)) (I.hok.fresh (Nat.le_refl _)) (Nat.ne_of_lt (Nat.lt_succ_self _))
  have I2 := Inv.made (C := C) I
  refine wpAny_call (make_map (f := f) I.kIn M.makes M.init (beq_iff_eq.mp M.fn) (codeAny_mono (F _ X.stack _ _ (Value.ref (s.heap.objs.size + 1) :: us) (V.ref (s.heap.objs.size + 1) :: vs) _ (E σ) (hr.make C us [])
    (I2.env0.make C us []) (.cons rfl r) hq) fun r s' hq' => ?_))
  cases r with
  | error e => exact hx σ pins _ _ e s' I2 hq'
  | ok fl =>
    cases fl with
    | ret u =>
      obtain ⟨v, H', I3, rv, ev, q3⟩ := I2.after hq'
      subst ev
      exact ⟨rv, ⟨V.ref (s.heap.objs.size + 1), H', I3, rfl, q3⟩⟩
    | next => exact False.elim hq'
    | brk => exact False.elim hq'
    | cont => exact False.elim hq'
theorem pe_makeF {B : Bd} (M : Mk X.K C f) (F : Ok X.prog X.w X.K X.mg X.base k f B) (hr : Room (k + 1) X.A) (hm : X.mg x = some (.ref C)) (hx : ∀ σ, PassesAt (L2.CX X.prog X.w) X σ (E σ))
    (ha : PA X (e :: es) t) (hg : Gl X x := by rfl) (hdb : (x == ("__debug__" : Str)) = false := by decide) (he : starEach (e :: es) X.env = (false, eval e X.env) :: starEach es X.env := by rfl) (hpl : (backTo pos (starEach es X.env)).any (·.1) = false := by rfl) :
    PE X (.Call (.Name x p) (e :: es) [] pos) (tMakeF C (Spc B) E t) := by
  refine ⟨fun pins s σ H Q I h => ?_⟩
  refine wpAny_Call_Name_kw (ld_glob I hg hm ?_ hdb)
  refine PySem.W.callWith_K (h₀ := X.base) I.ok.mod.kin M.kp (thn (ha.run pos pins s σ H _ I h) fun us s1 ⟨vs, H1, I1, r, q⟩ => ⟨I1.kIn, ?_⟩) he hpl
  exact run_makeF M F.fn hr hx I1 r q
theorem pe_makeF0 {B : Bd} (M : Mk X.K C f) (F : Ok X.prog X.w X.K X.mg X.base k f B) (hr : Room (k + 1) X.A) (hm : X.mg x = some (.ref C)) (hx : ∀ σ, PassesAt (L2.CX X.prog X.w) X σ (E σ))
    (hg : Gl X x := by rfl) (hdb : (x == ("__debug__" : Str)) = false := by decide) : PE X (.Call (.Name x p) [] [] pos) (tMakeF C (Spc B) E tNil) := by
  refine ⟨fun pins s σ H Q I h => ?_⟩
  refine wpAny_Call_Name_kw (ld_glob I hg hm ?_ hdb)
  exact PySem.W.callWith_K0 I.kIn M.kp (run_makeF (us := []) (vs := []) M F.fn hr hx I .nil h)
/-- raise C('..') -/
def tRz (W : WX) (C : Addr) : TS := fun _ σ H => W (.ref C) none σ H
theorem ps_rz {W : WX} {ms : Str} {j : Nat} {p2 pos2 : Pos} (tk : Takes X W) (gC : X.mg x = some (.ref C))
    (q : PySem.W.excIn X.K C He.veBase "ValueError.__new__" = true ∧ PySem.W.keepIn X.K (.ref C) = true ∧ PySem.W.subIn X.K (.ref C) (.type "BaseException") = some true ∧ PySem.W.typeIn X.K (.ref C) = some (.type "type"))
    (hc : X.calm = true := by rfl) (hg : Gl X x := by rfl) (hdb : (x == ("__debug__" : Str)) = false := by decide) :
    PS X (.Raise (some (.Call (.Name x p) [.Constant (.str ms) j p2] [] pos)) none pos2) (tRz W C) :=
  ps_raise hc tk (pmk_own PySem.F.excBase_ValueError q.1 gC q.2.1 (raises_own q.2.2.1 q.2.2.2) hg hdb)
theorem wps_rz {L : List As} {σ : L2.St} {nx bk ct : SL} {rt : VL} {W : WX} {KE : Value → Option Addr → SL} (hW : ∀ c d σ' L' H', KE c d σ' L' → Sats H' L' → W c d σ' H') (h : KE (.ref C) none σ L) : WpS L σ (tRz W C) nx rt bk ct := fun H D s l => hW _ _ _ _ _ h s
end
/-! ### a def -/
/-- what the head tells -/
structure Tx (fa : List He.Fa) (fn : List He.DefD) (K : PySem.W.Frag) (mg : Str → Option Value) : Prop where
  ex : ∃ h : Heap, K.In h ∧ h.Ns mainGlobals mg ∧ He.SaysD fa fn K
section
variable {fa : List He.Fa} {fn : List He.DefD} {K : PySem.W.Frag} {mg : Str → Option Value}
theorem Tx.glo (T : Tx fa fn K mg) (i : Nat) {x : Str} (h : fa[i]? = some (.glo x) := by rfl) : mg x = some (.ref (He.ga K x)) := by
  obtain ⟨h', X, G, c⟩ := T.ex
  exact He.glo_ok X G (c.fact i h)
theorem Tx.free (T : Tx fa fn K mg) (i : Nat) {x : Str} (h : fa[i]? = some (.free x) := by rfl) : mg x = none := by
  obtain ⟨h', X, G, c⟩ := T.ex
  exact He.free_ok X G (c.fact i h)
theorem Tx.int (T : Tx fa fn K mg) (i : Nat) {x : Str} {n : Int} (h : fa[i]? = some (.int x n) := by rfl) : ∃ t, mg x = some (.int n t) := by
  obtain ⟨h', X, G, c⟩ := T.ex
  exact He.int_ok X G (c.fact i h)
theorem Tx.str (T : Tx fa fn K mg) (i : Nat) {x n : Str} (h : fa[i]? = some (.str x n) := by rfl) : ∃ t, mg x = some (.str n t) := by
  obtain ⟨h', X, G, c⟩ := T.ex
  exact He.str_ok X G (c.fact i h)
theorem Tx.cls (T : Tx fa fn K mg) (i : Nat) {x : Str} (h : fa[i]? = some (.cls x) := by rfl) : Cls K (He.ga K x) := by
  obtain ⟨h', X, G, c⟩ := T.ex
  exact He.cls_ok (c.fact i h)
theorem Tx.noat (T : Tx fa fn K mg) (i : Nat) {x f : Str} (h : fa[i]? = some (.noat x f) := by rfl) : NoAttr K (He.ga K x) f := by
  obtain ⟨h', X, G, c⟩ := T.ex
  exact He.noat_ok (c.fact i h)
theorem Tx.meth (T : Tx fa fn K mg) (i : Nat) {x m : Str} (h : fa[i]? = some (.meth x m) := by rfl) : Meth K (He.ga K x) m (He.ma K (He.ga K x) m) := by
  obtain ⟨h', X, G, c⟩ := T.ex
  exact He.meth_ok (c.fact i h)
theorem Tx.mkr (T : Tx fa fn K mg) (i : Nat) {x : Str} (h : fa[i]? = some (.mkr x) := by rfl) : Mk K (He.ga K x) (He.ma K (He.ga K x) "__init__") := by
  obtain ⟨h', X, G, c⟩ := T.ex
  exact He.mkr_ok (c.fact i h)
theorem Tx.exc (T : Tx fa fn K mg) (i : Nat) {x : Str} (h : fa[i]? = some (.exc x) := by rfl) : PySem.W.excIn K (He.ga K x) He.veBase "ValueError.__new__" = true ∧ PySem.W.keepIn K (.ref (He.ga K x)) = true ∧ PySem.W.subIn K (.ref (He.ga K x)) (.type "BaseException") = some true ∧
    PySem.W.typeIn K (.ref (He.ga K x)) = some (.type "type") := by
  obtain ⟨h', X, G, c⟩ := T.ex
  exact He.exc_ok (c.fact i h)
theorem Tx.exm (T : Tx fa fn K mg) (i : Nat) {x y : Str} {b : Bool} (h : fa[i]? = some (.exm x y b) := by rfl) : PySem.W.exmOne K (.ref (He.ga K x)) (.ref (He.ga K y)) = some b := by
  obtain ⟨h', X, G, c⟩ := T.ex
  exact He.exm_ok (c.fact i h)
theorem Tx.df (T : Tx fa fn K mg) (i : Nat) {d : He.DefD} (h : fn[i]? = some d := by rfl) : ∃ fd, FunD K d.name d.qual d.params d.body d.scope (d.dvs K) (d.kws K) (He.fAd K d.at_) fd := by
  obtain ⟨h', X, G, c⟩ := T.ex
  exact c.def_ i h
theorem Tx.keep (T : Tx fa fn K mg) (i : Nat) {d : He.DefD} (h : fn[i]? = some d := by rfl) : PySem.W.keepIn K (.ref (He.fAd K d.at_)) = true := by
  obtain ⟨fd, F⟩ := T.df i h
  exact F.kp
end
theorem ok_of {P : Program} {w : World} {K : PySem.W.Frag} {mg : Str → Option Value} {base : Heap} {fa : List He.Fa} {fn : List He.DefD} {k : Nat} {B : Bd} {N ps : List Str} (T : Tx fa fn K mg) (i : Nat) {d : He.DefD} (hi : fn[i]? = some d) (hd : d.dfl = []) (hk : d.kwd = [])
    (S : FnScope N ps d.scope) (hb : ∀ (kV doc pm : Value) (an : Option Addr) (cdv ct : Value) (us : List Value), us.length = ps.length → bindArgs (PySem.W.fnOf d.name d.qual d.params d.body d.scope .none kV doc pm an cdv ct) ⟨us, []⟩ = pure (ps.zip us))
    (len : ∀ vs L K KE, B vs L K KE → vs.length = ps.length)
    (body : ∀ (cdv : Value) (A : Around) (outer : List Env) (s : Shared) (H : Hp) (vs : List V) (L : List As) (E : XK) (Kv : VL) (KE : XL), Room k (A.deeper (envOfC d.qual d.scope s.heap.objs.size (He.fAd K d.at_) cdv)) → LE KE E → B vs L Kv KE →
      ∃ t, PSs (cxOf (L2.CX P w) P w K mg base N d.qual d.scope (He.fAd K d.at_) cdv A outer s H E) d.body t ∧ WpS L (start N vs) t (fun _ L' => Up Kv .non L') (Up Kv) F0 F0) :
    Ok P w K mg base (k + 1) (He.fAd K d.at_) B := by
  obtain ⟨fd, F⟩ := T.df i hi
  obtain ⟨at_, name, qual, params, bdy, scope, dfl, kwd⟩ := d
  cases hd
  cases hk
  refine ⟨?_, F.kp⟩
  have ok : FnOk P w K mg base (L2.CX P w) (k + 1) (He.fAd K at_) fd ps (Spc B) := by
    refine F.ok S (fun vs H Q E h => ?_) (fun cdv A outer s H vs Q E hr h => ?_)
    · obtain ⟨L, Kv, KE, _, b, _⟩ := h
      exact len _ _ _ _ b
    · obtain ⟨L, Kv, KE, sat, b, hK, hE⟩ := h
      obtain ⟨t, d1, wp⟩ := body cdv A outer s H vs L E Kv KE hr hE b
      exact ⟨t, d1, wp H _ sat ⟨fun σ L' H' ⟨L2, e, k⟩ s' => hK _ _ _ k (e.ap s'), fun v L' H' ⟨L2, e, k⟩ s' => hK _ _ _ k (e.ap s'), fun _ _ _ z => z.elim, fun _ _ _ z => z.elim⟩⟩
  have r := ok.raw (F.bindsN hb) .nil
  intro A outer s H us vs Q E hr e0 rv hs
  exact r A outer s H us vs Q E hr e0 rv (by show Spc B (vs ++ []) H Q E; rw [List.append_nil]; exact hs)
/-- the law's own def: nothing leaves it -/
theorem law_of {P : Program} {w : World} {K : PySem.W.Frag} {mg : Str → Option Value} {base : Heap} {k : Nat} {B : Bd} {N ps : List Str} {d : He.DefD} {f : Addr} {fd : FuncData} {dvs : List V} {kws : List (Str × V)} (F : FunD K d.name d.qual d.params d.body d.scope dvs kws f fd)
    (S : FnScope N ps d.scope) (len : ∀ vs L K KE, B vs L K KE → vs.length = ps.length)
    (body : ∀ (cdv : Value) (A : Around) (outer : List Env) (s : Shared) (H : Hp) (vs : List V) (L : List As) (E : XK) (Kv : VL) (KE : XL), Room k (A.deeper (envOfC d.qual d.scope s.heap.objs.size f cdv)) → LE KE E → B vs L Kv KE →
      ∃ t, PSs (cxOf CX0 P w K mg base N d.qual d.scope f cdv A outer s H E) d.body t ∧ WpS L (start N vs) t (fun _ L' => Up Kv .non L') (Up Kv) F0 F0) :
    FnOk P w K mg base CX0 (k + 1) f fd ps (Spc B) := by
  refine F.ok S (fun vs H Q E h => ?_) (fun cdv A outer s H vs Q E hr h => ?_)
  · obtain ⟨L, Kv, KE, _, b, _⟩ := h
    exact len _ _ _ _ b
  · obtain ⟨L, Kv, KE, sat, b, hK, hE⟩ := h
    obtain ⟨t, d1, wp⟩ := body cdv A outer s H vs L E Kv KE hr hE b
    exact ⟨t, d1, wp H _ sat ⟨fun σ L' H' ⟨L2, e, k⟩ s' => hK _ _ _ k (e.ap s'), fun v L' H' ⟨L2, e, k⟩ s' => hK _ _ _ k (e.ap s'), fun _ _ _ z => z.elim, fun _ _ _ z => z.elim⟩⟩
/-- the law's promise: of every list of ints, True -/
def B_law (K : PySem.W.Frag) : Bd := fun vs L Kv _ => ∃ (a : Addr) (ns : List Int), vs = [.ref a] ∧ ns.length ≤ 63 ∧ L = [Sq K a (ns.map V.int)] ∧ ∀ L', Kv (.bl true) L'
theorem law_sp {K : PySem.W.Frag} {H : Hp} {a : Addr} {ns : List Int} (h : ns.length ≤ 63) (s : SqL K H a (ns.map V.int)) : Spc (B_law K) [.ref a] H (fun v _ => v = .bl true) fun _ _ _ => False :=
  ⟨[Sq K a (ns.map V.int)], fun v _ => v = .bl true, X0, Sats.script s, ⟨a, ns, rfl, h, rfl, fun _ => rfl⟩, fun _ _ _ e _ => e, le0⟩
end Q

namespace Q
open PySem PySem.Spec L2
open PyProof.Rows (envOfC)
section
variable {L L1 L2' : List As} {σ : L2.St} {K : VL} {x y v : V} {Kf : PySem.W.Frag}
/-! ### operators -/
theorem wr_I0 {g : Int → Int → V} {i j : Int} (k : K (g i j) L) : WpR L (rI0 g) (.int i) (.int j) K := fun H Q s q => ⟨i, j, rfl, rfl, q _ _ _ k s⟩
theorem wr_I {C : Int → Int → Prop} {g : Int → Int → V} {i j : Int} (c : C i j) (k : K (g i j) L) : WpR L (rI C g) (.int i) (.int j) K := fun H Q s q => ⟨i, j, rfl, rfl, c, q _ _ _ k s⟩
theorem wu_I {g : Int → V} {i : Int} (k : K (g i) L) : WpU L (rU g) (.int i) K := fun H Q s q => ⟨i, rfl, q _ _ _ k s⟩
theorem wr_eq (c : scal x y = true) (k : K (.bl (decide (x = y))) L) : WpR L rEq x y K := fun H Q s q => ⟨c, q _ _ _ k s⟩
theorem wr_ne (c : scal x y = true) (k : K (.bl (!decide (x = y))) L) : WpR L rNe x y K := fun H Q s q => ⟨c, q _ _ _ k s⟩
def rAddT : R2 := fun x y H Q => ∃ i j, x = .str i ∧ y = .str j ∧ i.length + j.length ≤ sizeLine ∧ Q (.str (i ++ j)) H
theorem op_addT {X : Cx} : OpR X (binaryOp .Add) rAddT := op_add_str
theorem wr_addT {a b : Str} (c : a.length + b.length ≤ sizeLine) (k : K (.str (a ++ b)) L) : WpR L rAddT (.str a) (.str b) K := fun H Q s q => ⟨a, b, rfl, rfl, c, q _ _ _ k s⟩
theorem wr_cat {a b : Addr} {xs ys : List V} (ha : HasX L a (.lst xs)) (hb : HasX L b (.lst ys)) (z : xs.length + ys.length ≤ sizeLine) (k : ∀ p, K (.ref p) (cell p (.lst (xs ++ ys)) :: L)) : WpR L rCat (.ref a) (.ref b) K := fun H Q s q =>
  ⟨a, b, xs, ys, rfl, rfl, ha.eq s, hb.eq s, z, fun p hp => q _ _ _ (k p) (s.new hp)⟩
theorem wr_ixL {a : Addr} {xs : List V} {i : Int} (h : HasL Kf L a xs) (e : atI xs i = some v) (k : K v L) : WpR L (rIxL Kf) (.ref a) (.int i) K := fun H Q s q => ⟨a, xs, i, v, rfl, rfl, h.sq s, e, q _ _ _ k s⟩
theorem wr_ixT {a : Addr} {xs : List V} {i : Int} (h : HasX L a (.tup xs)) (e : atI xs i = some v) (k : K v L) : WpR L (rIxT Kf) (.ref a) (.int i) K := fun H Q s q => ⟨a, xs, i, v, rfl, rfl, SqT.of (h.eq s), e, q _ _ _ k s⟩
theorem wr_ixS {z : Str} {i : Int} {c : Nat} (l : z.length ≤ sizeLine) (e : atI z.cps.toList i = some c) (k : K (.str ⟨#[c]⟩) L) : WpR L rIxS (.str z) (.int i) K := fun H Q s q => ⟨z, i, c, rfl, rfl, l, e, q _ _ _ k s⟩
theorem wr_in {a : Addr} {xs : List V} {neg : Bool} (h : HasL Kf L a xs) (fx : flatV x = true) (fs : xs.all flatV = true) (k : K (.bl (if neg then !inV x xs else inV x xs)) L) : WpR L (rIn Kf neg) x (.ref a) K := fun H Q s q => ⟨a, xs, rfl, .inl (h.sq s), fx, fs, q _ _ _ k s⟩
theorem wr_inT {a : Addr} {xs : List V} {neg : Bool} (h : HasX L a (.tup xs)) (fx : flatV x = true) (fs : xs.all flatV = true) (k : K (.bl (if neg then !inV x xs else inV x xs)) L) : WpR L (rIn Kf neg) x (.ref a) K := fun H Q s q => ⟨a, xs, rfl, .inr (SqT.of (h.eq s)), fx, fs, q _ _ _ k s⟩
def rInS (neg : Bool) : R2 := fun x y H Q => ∃ (c : Nat) (z : Str), x = .str ⟨#[c]⟩ ∧ y = .str z ∧ Q (.bl (if neg then !decide (c ∈ z.cps.toList) else decide (c ∈ z.cps.toList))) H
theorem op_inS {X : Cx} : OpR X (compareOp .In) (rInS false) := op_in_sign
theorem op_notInS {X : Cx} : OpR X (compareOp .NotIn) (rInS true) := op_notIn_sign
theorem wr_inS {neg : Bool} {c : Nat} {z : Str} (k : K (.bl (if neg then !decide (c ∈ z.cps.toList) else decide (c ∈ z.cps.toList))) L) : WpR L (rInS neg) (.str ⟨#[c]⟩) (.str z) K := fun H Q s q => ⟨c, z, rfl, rfl, q _ _ _ k s⟩
def rIsN (neg : Bool) : R2 := fun x y H Q => y = .non ∧ Q (.bl (if neg then !decide (x = .non) else decide (x = .non))) H
theorem op_isN1 {X : Cx} : OpR X (compareOp .Is) (rIsN false) := op_isN
theorem op_notN1 {X : Cx} : OpR X (compareOp .IsNot) (rIsN true) := op_notN
theorem wr_isN {neg : Bool} (k : K (.bl (if neg then !decide (x = .non) else decide (x = .non))) L) : WpR L (rIsN neg) x .non K := fun H Q s q => ⟨rfl, q _ _ _ k s⟩
theorem wsl_list {a : Addr} {xs : List V} {lo hi : Option Int} (h : HasL Kf L a xs) (k : ∀ p, K (.ref p) (cell p (.lst (cutV xs lo hi)) :: L)) : WpSl L (rSlL Kf) (.ref a) lo hi K := fun H Q s q => ⟨a, xs, rfl, h.sq s, fun p hp => q _ _ _ (k p) (s.new hp)⟩
theorem wsl_str {z : Str} {lo hi : Option Int} (l : z.length ≤ sizeLine) (k : K (.str (cutS z lo hi)) L) : WpSl L rSlS (.str z) lo hi K := fun H Q s q => ⟨z, rfl, l, q _ _ _ k s⟩
/-! ### calls of built-ins -/
def rLenS (K : PySem.W.Frag) : List V → Hp → VK → Prop := fun xs H Q => ∃ p ys, xs = [.ref p] ∧ (SqL K H p ys ∨ SqT K H p ys) ∧ Q (.int ys.length) H
theorem cr_lenS {X : Cx} : CallR X (.builtin "len") (rLenS X.K) := call_len_seq
theorem wc_len {a : Addr} {xs : List V} (h : HasL Kf L a xs) (k : K (.int xs.length) L) : WpC L (rLenS Kf) [.ref a] K := fun H Q s q => ⟨a, xs, rfl, .inl (h.sq s), q _ _ _ k s⟩
theorem wc_lenT {a : Addr} {xs : List V} (h : HasX L a (.tup xs)) (k : K (.int xs.length) L) : WpC L (rLenS Kf) [.ref a] K := fun H Q s q => ⟨a, xs, rfl, .inr (SqT.of (h.eq s)), q _ _ _ k s⟩
def rLenX : List V → Hp → VK → Prop := fun xs H Q => ∃ z, xs = [.str z] ∧ z.length ≤ sizeLine ∧ Q (.int z.length) H
theorem cr_lenX {X : Cx} : CallR X (.builtin "len") rLenX := call_len_str
theorem wc_lenX {z : Str} (l : z.length ≤ sizeLine) (k : K (.int z.length) L) : WpC L rLenX [.str z] K := fun H Q s q => ⟨z, rfl, l, q _ _ _ k s⟩
def rInt1 : List V → Hp → VK → Prop := fun xs H Q => (∃ i, xs = [.int i] ∧ Q (.int i) H) ∨ ∃ k, xs = [.bl k] ∧ Q (.int (if k then 1 else 0)) H
theorem cr_int1 {X : Cx} : CallR X (.type "int") rInt1 := call_int1
theorem wc_int1 {b : Bool} (k : K (.int (if b then 1 else 0)) L) : WpC L rInt1 [.bl b] K := fun H Q s q => .inr ⟨b, rfl, q _ _ _ k s⟩
def rListS (K : PySem.W.Frag) : List V → Hp → VK → Prop := fun xs H Q => ∃ p ys, xs = [.ref p] ∧ (SqL K H p ys ∨ SqT K H p ys) ∧ ∀ l, H l = none → Q (.ref l) (upd H l (.lst ys))
theorem cr_listS {X : Cx} : CallR X (.type "list") (rListS X.K) := call_list_of
theorem wc_list {a : Addr} {xs : List V} (h : HasL Kf L a xs) (k : ∀ p, K (.ref p) (cell p (.lst xs) :: L)) : WpC L (rListS Kf) [.ref a] K := fun H Q s q => ⟨a, xs, rfl, .inl (h.sq s), fun p hp => q _ _ _ (k p) (s.new hp)⟩
theorem wc_listD {a : Addr} {kvs : List (Key × V)} (h : Has (cell a (.dK kvs)) L) (k : ∀ p, K (.ref p) (cell p (.lst (kvs.map fun kv => kV kv.1)) :: L)) : WpC L rListD [.ref a] K := fun H Q s q => ⟨a, kvs, rfl, s.has h, fun p hp => q _ _ _ (k p) (s.new hp)⟩
theorem wc_sum {a : Addr} {ns : List Int} (h : HasL Kf L a (ns.map V.int)) (k : K (.int ns.sum) L) : WpC L (rSum Kf) [.ref a] K := fun H Q s q => ⟨a, ns, rfl, h.sq s, q _ _ _ k s⟩
theorem wc_all {a : Addr} {bs : List Bool} (h : HasL Kf L a (bs.map V.bl)) (k : K (.bl (bs.all id)) L) : WpC L (rAll Kf) [.ref a] K := fun H Q s q => ⟨a, bs, rfl, h.sq s, q _ _ _ k s⟩
def rMax2 : List V → Hp → VK → Prop := fun xs H Q => ∃ i j, xs = [.int i, .int j] ∧ Q (.int (if j > i then j else i)) H
def rMin2 : List V → Hp → VK → Prop := fun xs H Q => ∃ i j, xs = [.int i, .int j] ∧ Q (.int (if j < i then j else i)) H
theorem cr_max2 {X : Cx} (hc : X.calm = true) : CallR X (.builtin "max") rMax2 := call_max2 hc
theorem cr_min2 {X : Cx} (hc : X.calm = true) : CallR X (.builtin "min") rMin2 := call_min2 hc
theorem wc_max2 {i j : Int} (k : K (.int (if j > i then j else i)) L) : WpC L rMax2 [.int i, .int j] K := fun H Q s q => ⟨i, j, rfl, q _ _ _ k s⟩
theorem wc_min2 {i j : Int} (k : K (.int (if j < i then j else i)) L) : WpC L rMin2 [.int i, .int j] K := fun H Q s q => ⟨i, j, rfl, q _ _ _ k s⟩
/-- x is of the built-in type T -/
def Kd (Kf : PySem.W.Frag) (L : List As) (x : V) (T : String) : Prop := ∀ H, Sats H L → TyX Kf H x (.type T)
theorem wc_isi {T c : String} {b : Bool} (h : Kd Kf L x T) (e : kitB T c = some b) (k : K (.bl b) L) : WpC L (rIsi Kf) [x, .ty c] K := fun H Q s q => ⟨x, .ty c, _, _, b, rfl, .ty c, h H s, kit_ty e, q _ _ _ k s⟩
theorem kd_str {z : Str} : Kd Kf L (.str z) "str" := fun _ _ => .base (.str z)
theorem kd_int {z : Int} : Kd Kf L (.int z) "int" := fun _ _ => .base (.int z)
theorem kd_bl {z : Bool} : Kd Kf L (.bl z) "bool" := fun _ _ => .base (.bl z)
theorem kd_non : Kd Kf L .non "NoneType" := fun _ _ => .base .non
theorem kd_lst {a : Addr} {xs : List V} (h : HasX L a (.lst xs)) : Kd Kf L (.ref a) "list" := fun _ s => .base (.lst (h.eq s))
theorem kd_tup {a : Addr} {xs : List V} (h : HasX L a (.tup xs)) : Kd Kf L (.ref a) "tuple" := fun _ s => .base (.tup (h.eq s))
theorem kd_dK {a : Addr} {kvs : List (Key × V)} (h : HasX L a (.dK kvs)) : Kd Kf L (.ref a) "dict" := fun _ s => .base (.dK (h.eq s))
/-! ### methods of lists -/
theorem wm_append {a : Addr} {xs : List V} (u : Upd (cell a (.lst xs)) (cell a (.lst (xs ++ [y]))) L L1) (z : xs.length < sizeLine) (k : K .non L1) : WpM L rAppend (.ref a) [y] K := fun H Q s q => ⟨a, xs, y, rfl, rfl, s.upd_mut u, z, q _ _ _ k (s.upd u)⟩
theorem wm_clear {a : Addr} {xs : List V} (u : Upd (cell a (.lst xs)) (cell a (.lst [])) L L1) (k : K .non L1) : WpM L rClear (.ref a) [] K := fun H Q s q => ⟨a, xs, rfl, rfl, s.upd_mut u, q _ _ _ k (s.upd u)⟩
theorem wm_extend {a b : Addr} {xs zs : List V} (hb : HasX L b (.lst zs)) (u : Upd (cell a (.lst xs)) (cell a (.lst (xs ++ zs))) L L1) (z : xs.length + zs.length ≤ sizeLine) (k : K .non L1) : WpM L rExtend (.ref a) [.ref b] K := fun H Q s q => ⟨a, b, xs, zs, rfl, rfl, s.upd_mut u, hb.eq s, z, q _ _ _ k (s.upd u)⟩
theorem ty_lst {a : Addr} {xs : List V} (h : HasL Kf L a xs) : ∀ H, Sats H L → tyV Kf "list" (.ref a) H := fun H s => .inl ⟨rfl, xs, h.sq s⟩
/-! ### tests known -/
theorem ite_dec {p A B : Prop} [Decidable p] (h1 : p → A) (h2 : ¬ p → B) : if decide p = true then A else B := by
  by_cases h : p
  · rw [if_pos (decide_eq_true h)]; exact h1 h
  · rw [if_neg (by simp [h])]; exact h2 h
theorem ite_b {b : Bool} {A B : Prop} (h1 : b = true → A) (h2 : b = false → B) : if b = true then A else B := by
  cases b with
  | true => exact iteT (h1 rfl)
  | false => exact iteF (h2 rfl)
theorem ite_y {b : Bool} {A B : Prop} (h : b = true) (h1 : A) : if b = true then A else B := by rw [if_pos h]; exact h1
theorem ite_n {b : Bool} {A B : Prop} (h : b = false) (h1 : B) : if b = true then A else B := by rw [if_neg (by rw [h]; decide)]; exact h1
end
end Q
namespace Q
open PySem PySem.Spec L2
theorem pei_glob {X : Cx} {x : Str} {n : Int} {pos : Pos} (hg : Gl X x) (h : ∃ t, X.mg x = some (.int n t)) (hd : (x == ("__debug__" : Str)) = false := by decide) : PE X (.Name x pos) (tC (.int n)) := by
  obtain ⟨t, h⟩ := h
  exact pe_glob hg h ⟨t, rfl⟩ hd
theorem pes_glob {X : Cx} {x n : Str} {pos : Pos} (hg : Gl X x) (h : ∃ t, X.mg x = some (.str n t)) (hd : (x == ("__debug__" : Str)) = false := by decide) : PE X (.Name x pos) (tC (.str n)) := by
  obtain ⟨t, h⟩ := h
  exact pe_glob hg h ⟨t, rfl⟩ hd
end Q
namespace Q
open PySem PySem.Spec L2
/-- a value's built-in type, as far as the laws hand such things in -/
inductive Ty (L : List As) : V → String → Prop
  | int (i : Int) : Ty L (.int i) "int"
  | bl (b : Bool) : Ty L (.bl b) "bool"
  | non : Ty L .non "NoneType"
  | str (z : Str) : Ty L (.str z) "str"
  | lst {a : Addr} {xs : List V} (h : HasX L a (.lst xs)) : Ty L (.ref a) "list"
  | tup {a : Addr} {xs : List V} (h : HasX L a (.tup xs)) : Ty L (.ref a) "tuple"
theorem Ty.kd {Kf : PySem.W.Frag} {L : List As} {x : V} {t : String} (h : Ty L x t) : Kd Kf L x t := by
  cases h with
  | int i => exact kd_int
  | bl b => exact kd_bl
  | non => exact kd_non
  | str z => exact kd_str
  | lst h => exact kd_lst h
  | tup h => exact kd_tup h
def isI : V → Bool
  | .int _ => true
  | _ => false
def isBl : V → Bool
  | .bl _ => true
  | _ => false
def isS : V → Bool
  | .str _ => true
  | _ => false
def isR : V → Bool
  | .ref _ => true
  | _ => false
theorem Ty.kint {L : List As} {x : V} {t : String} (h : Ty L x t) : kitB t "int" = some (isI x || isBl x) := by
  cases h with
  | int i => exact (by decide +kernel : kitB "int" "int" = some true)
  | bl b => exact (by decide +kernel : kitB "bool" "int" = some true)
  | non => exact (by decide +kernel : kitB "NoneType" "int" = some false)
  | str z => exact (by decide +kernel : kitB "str" "int" = some false)
  | lst h => exact (by decide +kernel : kitB "list" "int" = some false)
  | tup h => exact (by decide +kernel : kitB "tuple" "int" = some false)
theorem Ty.kbool {L : List As} {x : V} {t : String} (h : Ty L x t) : kitB t "bool" = some (isBl x) := by
  cases h with
  | int i => exact (by decide +kernel : kitB "int" "bool" = some false)
  | bl b => exact (by decide +kernel : kitB "bool" "bool" = some true)
  | non => exact (by decide +kernel : kitB "NoneType" "bool" = some false)
  | str z => exact (by decide +kernel : kitB "str" "bool" = some false)
  | lst h => exact (by decide +kernel : kitB "list" "bool" = some false)
  | tup h => exact (by decide +kernel : kitB "tuple" "bool" = some false)
theorem Ty.kstr {L : List As} {x : V} {t : String} (h : Ty L x t) : kitB t "str" = some (isS x) := by
  cases h with
  | int i => exact (by decide +kernel : kitB "int" "str" = some false)
  | bl b => exact (by decide +kernel : kitB "bool" "str" = some false)
  | non => exact (by decide +kernel : kitB "NoneType" "str" = some false)
  | str z => exact (by decide +kernel : kitB "str" "str" = some true)
  | lst h => exact (by decide +kernel : kitB "list" "str" = some false)
  | tup h => exact (by decide +kernel : kitB "tuple" "str" = some false)
theorem Has.mono {A B : As} {L : List As} (h : Has A L) : Has A (B :: L) := .there h
end Q

namespace Q
open PySem PySem.Spec L2
open PyProof.Rows (envOfC)
theorem LE.up {KE : XL} {E : XK} (h : LE KE E) : LE (UpX KE) E := fun c d L' H' ⟨L2, e, k⟩ s => h _ _ _ _ k (e.ap s)
section
variable {L : List As} {σ : L2.St} {nx bk ct : SL} {rt : VL} {K : VL} {KE : XL} {E : XK}
/-- raise in a def: what the def wishes -/
theorem wps_raise {C : Addr} (hE : LE KE E) (h : UpX KE (.ref C) none L) : WpS L σ (tRz (fun cls d _ H => E cls d H) C) nx rt bk ct := fun H D s l => hE.up _ _ _ _ h s
/-- a call in a def: what leaves the callee leaves the def -/
theorem wpe_callE {sp : Sp} {ta : TA} (hE : LE KE E) (h : WpA L σ ta fun vs L1 => WpF L1 sp vs K (UpX KE)) : WpE L σ (tCallF sp (WE fun cls d _ H => E cls d H) ta) K := wpe_call (E := WE fun cls d _ H => E cls d H) hE.up h
theorem wpe_methE {sp : Sp} {ta : TA} {te : TE} {C : Addr} {m : Str} (hE : LE KE E) (h : WpE L σ te fun x L1 => ∃ a, x = .ref a ∧ IsI L1 a C m ∧ WpA L1 σ ta fun vs L2 => WpF L2 sp (.ref a :: vs) K (UpX KE)) : WpE L σ (tMethF C m sp (WE fun cls d _ H => E cls d H) te ta) K := wpe_meth (E := WE fun cls d _ H => E cls d H) hE.up h
/-- a call that lets nothing out -/
theorem wpe_call0 {sp : Sp} {ta : TA} (h : WpA L σ ta fun vs L1 => WpF L1 sp vs K X0) : WpE L σ (tCallF sp (fun _ => E0) ta) K := wpe_call (E := fun _ => E0) le0 h
theorem wpe_meth0 {sp : Sp} {ta : TA} {te : TE} {C : Addr} {m : Str} (h : WpE L σ te fun x L1 => ∃ a, x = .ref a ∧ IsI L1 a C m ∧ WpA L1 σ ta fun vs L2 => WpF L2 sp (.ref a :: vs) K X0) : WpE L σ (tMethF C m sp (fun _ => E0) te ta) K := wpe_meth (E := fun _ => E0) le0 h
/-- a call within a try -/
abbrev WL (KW : Value → Option Addr → SL) (W : WX) : Prop := ∀ c d σ' L' H', KW c d σ' L' → Sats H' L' → W c d σ' H'
theorem wpe_callW {sp : Sp} {ta : TA} {W : WX} {KW : Value → Option Addr → SL} (hW : WL KW W) (h : WpA L σ ta fun vs L1 => WpF L1 sp vs K fun c d L' => KW c d σ L') : WpE L σ (tCallF sp (WE W) ta) K := wpe_call (E := WE W) (fun c d L' H' k s => hW c d σ L' H' k s) h
theorem wpe_methW {sp : Sp} {ta : TA} {te : TE} {C : Addr} {m : Str} {W : WX} {KW : Value → Option Addr → SL} (hW : WL KW W) (h : WpE L σ te fun x L1 => ∃ a, x = .ref a ∧ IsI L1 a C m ∧ WpA L1 σ ta fun vs L2 => WpF L2 sp (.ref a :: vs) K fun c d L' => KW c d σ L') : WpE L σ (tMethF C m sp (WE W) te ta) K :=
  wpe_meth (E := WE W) (fun c d L' H' k s => hW c d σ L' H' k s) h
/-! ### try -/
theorem wps_try {tb : WX → TS} {W' : Ends → WX} (KW : Value → Option Addr → SL) (hW : ∀ D, Lift nx rt bk ct D → WL KW (W' D)) (h : ∀ W, WL KW W → WpS L σ (tb W) nx rt bk ct) : WpS L σ (fun D σ H => tb (W' D) D σ H) nx rt bk ct := fun H D s l =>
  h (W' D) (hW D l) H D s l
/-- the three forms of try, their bodies told -/
def tTryO (Kf : PySem.W.Frag) (cx : Value) (ts : Addr → Value → Option Addr → TS) (Wout : WX) (tb : WX → TS) : TS := fun D σ H => tb (wOnly Kf cx ts Wout D) D σ H
def tTryM (Kf : PySem.W.Frag) (hs : List (Value × (Addr → Value → Option Addr → TS))) (Wout : WX) (tb : WX → TS) : TS := fun D σ H => tb (wMany Kf Wout D hs) D σ H
def tTryA (Kf : PySem.W.Frag) (cx : Value) (i : Nat) (ts : Addr → Value → Option Addr → TS) (Wout : WX) (tb : WX → TS) : TS := fun D σ H => tb (wAs Kf cx i ts Wout D) D σ H
/-- one clause -/
def HdOnly (Kf : PySem.W.Frag) (cx : Value) (ts : Addr → Value → Option Addr → TS) (nx : SL) (rt : VL) (bk ct : SL) : Value → Option Addr → SL := fun c d σ L => ∃ b, PySem.W.exmOne Kf c cx = some b ∧ b = true ∧ ∀ a, WpS L σ (ts a c d) nx rt bk ct
theorem wps_tryO {tb : WX → TS} {Kf : PySem.W.Frag} {cx : Value} {ts : Addr → Value → Option Addr → TS} {Wout : WX} (h : ∀ W, WL (HdOnly Kf cx ts nx rt bk ct) W → WpS L σ (tb W) nx rt bk ct) : WpS L σ (tTryO Kf cx ts Wout tb) nx rt bk ct :=
  wps_try (HdOnly Kf cx ts nx rt bk ct) (fun D l c d σ' L' H' ⟨b, e, eb, k⟩ s => ⟨b, e, fun _ a _ => k a H' D s l, fun z => by rw [eb] at z; cases z⟩) h
/-- several -/
def HdMany (Kf : PySem.W.Frag) (nx : SL) (rt : VL) (bk ct : SL) : List (Value × (Addr → Value → Option Addr → TS)) → Value → Option Addr → SL
  | [] => fun _ _ _ _ => False
  | (cx, ts) :: r => fun c d σ L => ∃ b, PySem.W.exmOne Kf c cx = some b ∧ (b = true → ∀ a, WpS L σ (ts a c d) nx rt bk ct) ∧ (b = false → HdMany Kf nx rt bk ct r c d σ L)
theorem hdMany {Kf : PySem.W.Frag} {Wout : WX} {D : Ends} (l : Lift nx rt bk ct D) : ∀ (hs : List (Value × (Addr → Value → Option Addr → TS))), WL (HdMany Kf nx rt bk ct hs) (wMany Kf Wout D hs)
  | [], _, _, _, _, _, k, _ => k.elim
  | (cx, ts) :: r, c, d, σ', L', H', ⟨b, e, k1, k2⟩, s => ⟨b, e, fun eb a _ => k1 eb a H' D s l, fun eb => hdMany l r c d σ' L' H' (k2 eb) s⟩
theorem wps_tryM {tb : WX → TS} {Kf : PySem.W.Frag} {hs : List (Value × (Addr → Value → Option Addr → TS))} {Wout : WX} (h : ∀ W, WL (HdMany Kf nx rt bk ct hs) W → WpS L σ (tb W) nx rt bk ct) : WpS L σ (tTryM Kf hs Wout tb) nx rt bk ct :=
  wps_try (HdMany Kf nx rt bk ct hs) (fun D l => hdMany l hs) h
theorem hm_skip {Kf : PySem.W.Frag} {cx c : Value} {d : Option Addr} {ts : Addr → Value → Option Addr → TS} {r : List (Value × (Addr → Value → Option Addr → TS))} (e : PySem.W.exmOne Kf c cx = some false) (k : HdMany Kf nx rt bk ct r c d σ L) : HdMany Kf nx rt bk ct ((cx, ts) :: r) c d σ L := ⟨false, e, fun z => (nomatch z), fun _ => k⟩
theorem hm_take {Kf : PySem.W.Frag} {cx c : Value} {d : Option Addr} {ts : Addr → Value → Option Addr → TS} {r : List (Value × (Addr → Value → Option Addr → TS))} (e : PySem.W.exmOne Kf c cx = some true) (k : ∀ a, WpS L σ (ts a c d) nx rt bk ct) : HdMany Kf nx rt bk ct ((cx, ts) :: r) c d σ L := ⟨true, e, fun _ => k, fun z => (nomatch z)⟩
/-- the clause with a name -/
def HdAs (Kf : PySem.W.Frag) (cx : Value) (i : Nat) (ts : Addr → Value → Option Addr → TS) (nx : SL) (rt : VL) (bk ct : SL) : Value → Option Addr → SL := fun c d σ L => PySem.W.exmOne Kf c cx = some true ∧
  ∀ a, WpS L (σ.set i (some (.ref a))) (ts a c d) (fun σ' => nx (σ'.set i none)) rt (fun σ' => bk (σ'.set i none)) (fun σ' => ct (σ'.set i none))
theorem wps_tryA {tb : WX → TS} {Kf : PySem.W.Frag} {cx : Value} {i : Nat} {ts : Addr → Value → Option Addr → TS} {Wout : WX} (h : ∀ W, WL (HdAs Kf cx i ts nx rt bk ct) W → WpS L σ (tb W) nx rt bk ct) : WpS L σ (tTryA Kf cx i ts Wout tb) nx rt bk ct :=
  wps_try (HdAs Kf cx i ts nx rt bk ct) (fun D l c d σ' L' H' ⟨e, k⟩ s => ⟨true, e, fun _ a _ => k a H' _ s ⟨fun σ2 L2 H2 => l.nx _ L2 H2, l.rt, fun σ2 L2 H2 => l.bk _ L2 H2, fun σ2 L2 H2 => l.ct _ L2 H2⟩, fun z => (nomatch z)⟩) h
end
section
variable {X : Cx} {x n : Str} {c : Value} {i : Nat} {body suite : List Stmt} {b₀ : Stmt} {h₀ : ExceptHandler} {hds : List ExceptHandler} {l : List (Value × (Addr → Value → Option Addr → TS))} {np pos pos' : Pos} {tb : WX → TS} {ts : Addr → Value → Option Addr → TS} {Wout : WX}
theorem ps_tryO (hc : Names X x c) (tk : Takes X Wout)
    (hb : ∀ (W : WX) (pn : List (Addr × Obj)) (xe : Value → Shared → Prop), Takes (X.tr pn xe) W → PassesOwn (model X.prog X.w) X.A X.env xe → PSs (X.tr pn xe) body (tb W))
    (hsu : ∀ (a : Addr) (oe : Obj) (cls : Value) (d : Option Addr) (pn : List (Addr × Obj)), Zc cls d oe → (∃ vs, oe.data = .fields vs) → PSs (X.suite a ((a, oe) :: pn)) (b₀ :: suite) (ts a cls d))
    (hs : X.stack = X.env :: X.outer := by rfl) (hf : X.env.frame = some X.env.locals := by rfl) :
    PS X (.Try body [.ExceptHandler (some (.Name x np)) none (b₀ :: suite) pos'] [] [] pos) (tTryO X.K c ts Wout tb) := ps_try_only hs hf hc tk hb hsu
theorem ps_tryM (tk : Takes X Wout)
    (hb : ∀ (W : WX) (pn : List (Addr × Obj)) (xe : Value → Shared → Prop), Takes (X.tr pn xe) W → PassesOwn (model X.prog X.w) X.A X.env xe → PSs (X.tr pn xe) body (tb W))
    (hh : HdsOk X (h₀ :: hds) l) (hs : X.stack = X.env :: X.outer := by rfl) (hf : X.env.frame = some X.env.locals := by rfl) : PS X (.Try body (h₀ :: hds) [] [] pos) (tTryM X.K l Wout tb) := ps_try_many hs hf tk hb hh
theorem ps_tryA (hN : X.N.Nodup) (hi : X.N[i]? = some n) (hln : X.env.kindOf n = some .local) (hc : Names X x c) (tk : Takes X Wout)
    (hb : ∀ (W : WX) (pn : List (Addr × Obj)) (xe : Value → Shared → Prop), Takes (X.tr pn xe) W → PassesOwn (model X.prog X.w) X.A X.env xe → PSs (X.tr pn xe) body (tb W))
    (hsu : ∀ (a : Addr) (oe : Obj) (cls : Value) (d : Option Addr) (pn : List (Addr × Obj)), Zc cls d oe → (∃ vs, oe.data = .fields vs) → PSs (X.suite a ((a, oe) :: pn)) (b₀ :: suite) (ts a cls d))
    (hs : X.stack = X.env :: X.outer := by rfl) (hf : X.env.frame = some X.env.locals := by rfl) :
    PS X (.Try body [.ExceptHandler (some (.Name x np)) (some n) (b₀ :: suite) pos'] [] [] pos) (tTryA X.K c i ts Wout tb) := ps_try_as hs hf hN hi hln hc tk hb hsu
end
/-! ### isinstance of the exception that a suite holds -/
def rIsG (K : PySem.W.Frag) (cls : Value) (d : Option Addr) (a : Addr) : List V → Hp → VK → Prop := fun xs H Q => ∃ (D : Addr) (c : V) (cv : Value) (b : Bool), cls = .ref D ∧ d = none ∧ ExcC K D ∧ xs = [.ref a, c] ∧ ClsV c cv ∧ PySem.W.kitOne K (.ref D) cv = some b ∧ Q (.bl b) H
theorem call_isG {X : Cx} {a : Addr} {oe : Obj} {pn : List (Addr × Obj)} {cls : Value} {d : Option Addr} (hz : Zc cls d oe) (hf : ∃ vs, oe.data = .fields vs) : CallR (X.suite a ((a, oe) :: pn)) (.builtin "isinstance") (rIsG X.K cls d a) := by
  intro pins s σ H xs us Q I r h
  obtain ⟨D, c, cv, b, rfl, rfl, C, rfl, hcv, e, q⟩ := h
  exact call_isE C hz hf pins s σ H _ us Q I r ⟨c, cv, b, rfl, fun u ru => hcv.eq ru, e, q⟩
theorem wc_isG {L : List As} {K : VL} {Kf : PySem.W.Frag} {D a : Addr} {c : V} {cv : Value} {b : Bool} (C : ExcC Kf D) (hc : ClsV c cv) (e : PySem.W.kitOne Kf (.ref D) cv = some b) (k : K (.bl b) L) : WpC L (rIsG Kf (.ref D) none a) [.ref a, c] K := fun H Q s q => ⟨D, c, cv, b, rfl, rfl, C, rfl, hc, e, q _ _ _ k s⟩
/-! ### a head that tells such classes too -/
def excB (K : PySem.W.Frag) (D : Addr) : Bool :=
  He.eqO (PySem.W.findIn K (.ref D) "__getattribute__") (some (some (.builtin "BaseException.__getattribute__"))) && (He.eqO (PySem.W.findIn K (.ref D) "__getattr__") (some none) && (decide (PySem.W.subIn K (.ref D) (.type "BaseException") = some true) && (PySem.W.hasDictIn K D &&
  (He.eqO (PySem.W.findIn K (.ref D) "__class__") (some (some (.builtin "object.__class__"))) && (He.eqO (PySem.W.specialIn K (.builtin "object.__class__") "__get__") (some (some (.builtin "getset_descriptor.__get__"))) && (decide (PySem.W.takesIn K (.builtin "object.__class__") = some true) &&
  decide (PySem.W.mroIn K D (.type "object") = some true)))))))
theorem excB_ok {K : PySem.W.Frag} {D : Addr} (h : excB K D = true) : ExcC K D := by
  obtain ⟨h1, h⟩ := He.ba h
  obtain ⟨h2, h⟩ := He.ba h
  obtain ⟨h3, h⟩ := He.ba h
  obtain ⟨h4, h⟩ := He.ba h
  obtain ⟨h5, h⟩ := He.ba h
  obtain ⟨h6, h⟩ := He.ba h
  obtain ⟨h7, h8⟩ := He.ba h
  exact ⟨He.eqO_ok h1, He.eqO_ok h2, of_decide_eq_true h3, h4, He.eqO_ok h5, He.eqO_ok h6, of_decide_eq_true h7, of_decide_eq_true h8⟩
/-- further facts -/
inductive Fm where
  | exi (x : Str)
  | isv (x : Str)
  | iso (x y : Str) (b : Bool)
def Fm.ok (K : PySem.W.Frag) : Fm → Bool
  | .exi x => excB K (He.ga K x)
  | .isv x => decide (PySem.W.kitOne K (.ref (He.ga K x)) (.type "ValueError") = some true)
  | .iso x y b => decide (PySem.W.kitOne K (.ref (He.ga K x)) (.ref (He.ga K y)) = some b)
def hookM (n : Nat) (fa : List He.Fa) (fn : List He.DefD) (fm : List Fm) : PySem.W.Hook where
  α := He.AlD × Bool
  obs := fun s => (He.obsD fa fn (He.frG s.heap.get? (He.asD s.heap.get? n)), fm.all fun f => f.ok (He.frG s.heap.get? (He.asD s.heap.get? n)))
  val := fun _ => (He.valD fn, true)
  says := fun _ h => ∃ K : PySem.W.Frag, K.In h ∧ He.SaysD fa fn K ∧ (fm.all fun f => f.ok K) = true
  of := fun _ _ e => ⟨_, He.frG_in, (Prod.mk.inj e).1, (Prod.mk.inj e).2⟩
  keeps := fun _ _ _ ⟨K, hK, c⟩ k => ⟨K, PySem.W.Frag.In.keeps hK k, c⟩
def obsM (n : Nat) (fa : List He.Fa) (fn : List He.DefD) (fm : List Fm) (g : Addr → Option Obj) : He.AlD × Bool := (He.obsD fa fn (He.frG g (He.asD g n)), fm.all fun f => f.ok (He.frG g (He.asD g n)))
theorem obsM_eq {n : Nat} {fa : List He.Fa} {fn : List He.DefD} {fm : List Fm} {g : Addr → Option Obj} {s : Shared} (h : ∀ a, g a = s.heap.get? a) : obsM n fa fn fm g = (hookM n fa fn fm).obs s := by
  have e : g = s.heap.get? := funext h
  rw [e] <;> rfl
/-- what the head tells, with those -/
structure Tm (fa : List He.Fa) (fn : List He.DefD) (fm : List Fm) (K : PySem.W.Frag) (mg : Str → Option Value) : Prop extends Tx fa fn K mg where
  more : (fm.all fun f => f.ok K) = true
section
variable {fa : List He.Fa} {fn : List He.DefD} {fm : List Fm} {K : PySem.W.Frag} {mg : Str → Option Value}
theorem Tm.at (T : Tm fa fn fm K mg) (i : Nat) {f : Fm} (h : fm[i]? = some f) : f.ok K = true := List.all_eq_true.mp T.more f (List.mem_of_getElem? h)
theorem Tm.exi (T : Tm fa fn fm K mg) (i : Nat) {x : Str} (h : fm[i]? = some (.exi x) := by rfl) : ExcC K (He.ga K x) := excB_ok (T.at i h)
theorem Tm.isv (T : Tm fa fn fm K mg) (i : Nat) {x : Str} (h : fm[i]? = some (.isv x) := by rfl) : PySem.W.kitOne K (.ref (He.ga K x)) (.type "ValueError") = some true := of_decide_eq_true (T.at i h)
theorem Tm.iso (T : Tm fa fn fm K mg) (i : Nat) {x y : Str} {b : Bool} (h : fm[i]? = some (.iso x y b) := by rfl) : PySem.W.kitOne K (.ref (He.ga K x)) (.ref (He.ga K y)) = some b := of_decide_eq_true (T.at i h)
end
end Q

namespace Q
open PySem PySem.Spec L2
open PyProof.Rows (envOfC)
section
variable {L L1 : List As} {σ : L2.St} {te : TE} {tt : TT} {nx bk ct : SL} {rt : VL} {K : VL} {Kf : PySem.W.Frag} {g : TG} {tb : TS}
/-! ### what is walked, further -/
theorem wpi_str {KI : It → List As → Prop} (h : WpE L σ te fun x L1 => ∃ z, x = .str z ∧ KI (Its z) L1) : WpI L σ (iStr te) KI := fun H R s q => h H _ s fun x L1 H1 ⟨z, e, k⟩ s1 => ⟨z, e, q _ _ _ k s1⟩
theorem iter_str {z : Str} : Iter (Its z) z.cps.size (fun _ => True) (fun i x L L' => (∃ c, z.cps[i]? = some c ∧ x = .str ⟨#[c]⟩) ∧ L' = L) :=
  ⟨fun i L H hi h s => hi, fun L H h s => Nat.le_refl _, fun i L H x H' hi h s ⟨e, q⟩ => ⟨L, ⟨q, rfl⟩, by rw [e]; exact s⟩⟩
theorem wpi_keys {KI : It → List As → Prop} (h : WpE L σ te fun x L1 => ∃ d o kvs, x = .ref d ∧ Has (cell d (.frz o (.dK kvs))) L1 ∧ KI (Itk d o kvs) L1) : WpI L σ (iKeys te) KI := fun H R s q =>
  h H _ s fun x L1 H1 ⟨d, o, kvs, e, hs, k⟩ s1 => ⟨d, o, e, .inl ⟨kvs, s1.has hs, q _ _ _ k s1⟩⟩
theorem iter_keys {d : Addr} {o : Obj} {kvs : List (Key × V)} : Iter (Itk d o kvs) kvs.length (fun L => Has (cell d (.frz o (.dK kvs))) L) (fun i x L L' => (∃ k v, kvs[i]? = some (k, v) ∧ x = kV k) ∧ L' = L) :=
  ⟨fun i L H hi h s => ⟨s.has h, hi⟩, fun L H h s => ⟨s.has h, Nat.le_refl _⟩, fun i L H x H' hi h s ⟨e, q⟩ => ⟨L, ⟨q, rfl⟩, by rw [e]; exact s⟩⟩
theorem wpi_items {KI : It → List As → Prop} (h : WpE L σ te fun x L1 => ∃ d o kvs, x = .ref d ∧ Has (cell d (.frz o (.dK kvs))) L1 ∧ KI (Iti d o kvs) L1) : WpI L σ (iItems te) KI := fun H R s q =>
  h H _ s fun x L1 H1 ⟨d, o, kvs, e, hs, k⟩ s1 => ⟨d, o, kvs, e, s1.has hs, q _ _ _ k s1⟩
theorem iter_items {d : Addr} {o : Obj} {kvs : List (Key × V)} : Iter (Iti d o kvs) kvs.length (fun L => Has (cell d (.frz o (.dK kvs))) L) (fun i x L L' => ∃ T k v, kvs[i]? = some (k, v) ∧ x = .ref T ∧ L' = Sh T (.tup [kV k, v]) :: L) :=
  ⟨fun i L H hi h s => ⟨s.has h, hi⟩, fun L H h s => ⟨s.has h, Nat.le_refl _⟩, fun i L H x H' hi h s ⟨T, k, v, e1, e2, e3, e4⟩ => ⟨_, ⟨T, k, v, e1, e2, rfl⟩, by rw [e4]; exact (Ent.sh .here).ap (s.new e3)⟩⟩
/-! ### for, by its source -/
theorem UpS.of {K : SL} {σ : L2.St} {L : List As} (h : K σ L) : UpS K σ L := ⟨L, .refl L, h⟩
theorem wps_up {t : TS} {nx' : SL} (h : WpS L σ t nx rt bk ct) (m : ∀ σ' L', nx σ' L' → nx' σ' L') : WpS L σ t nx' rt bk ct := fun H D s l => h H D s ⟨fun σ' L' H' k s' => l.nx _ _ _ (m _ _ k) s', l.rt, l.bk, l.ct⟩
/-- from a word up to what is dropped -/
theorem wps_forU {wi : TI} (h : WpI L σ wi fun J L0 => ∃ n Iv yl, Iter J n Iv yl ∧ ∃ Pv : Nat → L2.St → List As → Prop, UpS (Pv 0) σ L0 ∧ (∀ i σ' L', i ≤ n → Pv i σ' L' → Iv L') ∧
      (∀ i σ' L' x L'', i < n → Pv i σ' L' → yl i x L' L'' → WpG L'' σ' g x fun σ2 L2 => WpS L2 σ2 tb (UpS (Pv (i + 1))) rt nx (UpS (Pv (i + 1)))) ∧ ∀ σ' L', Pv n σ' L' → nx σ' L') : WpS L σ (tFor wi g tb) nx rt bk ct :=
  wps_for fun H R s q => h H R s fun J L' H' ⟨n, Iv, yl, it, Pv, ⟨L0, e, p0⟩, r⟩ s' => q J L0 H' ⟨n, Iv, yl, it, Pv, p0, r⟩ (e.ap s')
theorem wps_forLe (h : WpE L σ te fun x L1 => ∃ a xs, x = .ref a ∧ HasL Kf L1 a xs ∧ ∃ Pv : Nat → L2.St → List As → Prop, UpS (Pv 0) σ L1 ∧ (∀ i σ' L', i ≤ xs.length → Pv i σ' L' → HasL Kf L' a xs) ∧
      (∀ i σ' L' x, xs[i]? = some x → Pv i σ' L' → WpG L' σ' g x fun σ2 L2 => WpS L2 σ2 tb (UpS (Pv (i + 1))) rt nx (UpS (Pv (i + 1)))) ∧ ∀ σ' L', Pv xs.length σ' L' → nx σ' L') : WpS L σ (tFor (iList Kf te) g tb) nx rt bk ct :=
  wps_forU (wpi_list (wpe_mono h fun v L' ⟨a, xs, e, hl, Pv, p0, p1, turn, done⟩ => ⟨a, xs, e, hl, xs.length, _, _, iter_list, Pv, p0, p1, fun i σ' L' x L'' hi p ⟨y, e2⟩ => by
    subst e2
    exact turn i σ' _ x y p, done⟩))
theorem wps_forTe (h : WpE L σ te fun x L1 => ∃ a xs, x = .ref a ∧ HasX L1 a (.tup xs) ∧ ∃ Pv : Nat → L2.St → List As → Prop, UpS (Pv 0) σ L1 ∧ (∀ i σ' L', i ≤ xs.length → Pv i σ' L' → HasX L' a (.tup xs)) ∧
      (∀ i σ' L' x, xs[i]? = some x → Pv i σ' L' → WpG L' σ' g x fun σ2 L2 => WpS L2 σ2 tb (UpS (Pv (i + 1))) rt nx (UpS (Pv (i + 1)))) ∧ ∀ σ' L', Pv xs.length σ' L' → nx σ' L') : WpS L σ (tFor (iTup Kf te) g tb) nx rt bk ct :=
  wps_forU (wpi_tup (wpe_mono h fun v L' ⟨a, xs, e, hl, Pv, p0, p1, turn, done⟩ => ⟨a, xs, e, hl, xs.length, _, _, iter_tup, Pv, p0, p1, fun i σ' L' x L'' hi p ⟨y, e2⟩ => by
    subst e2
    exact turn i σ' _ x y p, done⟩))
theorem wps_forR1 {ta : TA} (h : WpA L σ ta fun vs L1 => ∃ j : Int, vs = [.int j] ∧ (-(2 ^ 62) ≤ j ∧ j < 2 ^ 62) ∧ ∃ Pv : Nat → L2.St → List As → Prop, UpS (Pv 0) σ L1 ∧
      (∀ (i : Nat) σ' L', (i : Int) < j → Pv i σ' L' → WpG L' σ' g (.int (i : Int)) fun σ2 L2 => WpS L2 σ2 tb (UpS (Pv (i + 1))) rt nx (UpS (Pv (i + 1)))) ∧ ∀ σ' L', Pv j.toNat σ' L' → nx σ' L') : WpS L σ (tFor (iRng1 ta) g tb) nx rt bk ct :=
  wps_forU (wpi_rng1 fun H Q s q => h H Q s fun vs L' H' ⟨j, e, ⟨b1, b2⟩, Pv, p0, turn, done⟩ s' => q vs L' H' ⟨j, e, b1, b2, j.toNat, _, _, iter_range, Pv, p0, fun _ _ _ _ _ => trivial, fun i σ' L' x L'' hi p ⟨y, e2⟩ => by
    subst e2
    subst y
    rw [Int.zero_add]
    exact turn i σ' _ (by omega) p, done⟩ s')
theorem wps_forR2 {ta : TA} (h : WpA L σ ta fun vs L1 => ∃ lo j : Int, vs = [.int lo, .int j] ∧ (-(2 ^ 62) ≤ lo ∧ lo < 2 ^ 62 ∧ -(2 ^ 62) ≤ j ∧ j < 2 ^ 62) ∧ ∃ Pv : Nat → L2.St → List As → Prop, UpS (Pv 0) σ L1 ∧
      (∀ (i : Nat) σ' L', lo + (i : Int) < j → Pv i σ' L' → WpG L' σ' g (.int (lo + (i : Int))) fun σ2 L2 => WpS L2 σ2 tb (UpS (Pv (i + 1))) rt nx (UpS (Pv (i + 1)))) ∧ ∀ σ' L', Pv (j - lo).toNat σ' L' → nx σ' L') : WpS L σ (tFor (iRng2 ta) g tb) nx rt bk ct :=
  wps_forU (wpi_rng2 fun H Q s q => h H Q s fun vs L' H' ⟨lo, j, e, b, Pv, p0, turn, done⟩ s' => q vs L' H' ⟨lo, j, e, b, (j - lo).toNat, _, _, iter_range, Pv, p0, fun _ _ _ _ _ => trivial, fun i σ' L' x L'' hi p ⟨y, e2⟩ => by
    subst e2
    subst y
    exact turn i σ' _ (by omega) p, done⟩ s')
theorem wps_forS (h : WpE L σ te fun x L1 => ∃ z, x = .str z ∧ ∃ Pv : Nat → L2.St → List As → Prop, UpS (Pv 0) σ L1 ∧
      (∀ i σ' L' c, z.cps.toList[i]? = some c → Pv i σ' L' → WpG L' σ' g (.str ⟨#[c]⟩) fun σ2 L2 => WpS L2 σ2 tb (UpS (Pv (i + 1))) rt nx (UpS (Pv (i + 1)))) ∧ ∀ σ' L', Pv z.length σ' L' → nx σ' L') : WpS L σ (tFor (iStr te) g tb) nx rt bk ct :=
  wps_forU (wpi_str (wpe_mono h fun v L' ⟨z, e, Pv, p0, turn, done⟩ => ⟨z, e, z.cps.size, _, _, iter_str, Pv, p0, fun _ _ _ _ _ => trivial, fun i σ' L' x L'' hi p ⟨⟨c, hc, ex⟩, e2⟩ => by
    subst e2
    subst ex
    exact turn i σ' _ c (by rw [Array.getElem?_toList]; exact hc) p, done⟩))
/-- over a dict's keys, under its lock: L1 is what stands beside the locked dict -/
theorem wps_forK {d : Addr} {kvs : List (Key × V)} {F : List As} (pk : Pick (cell d (.dK kvs)) L F) (he : ∀ od, WpE (cell d (.frz od (.dK kvs)) :: F) σ te fun x L2 => x = .ref d ∧ L2 = cell d (.frz od (.dK kvs)) :: F)
    (Pv : Nat → L2.St → List As → Prop) (p0 : UpS (Pv 0) σ F)
    (turn : ∀ od i σ' F' k v, kvs[i]? = some (k, v) → Pv i σ' F' → WpG (cell d (.frz od (.dK kvs)) :: F') σ' g (kV k) fun σ2 L2 => WpS L2 σ2 tb (fun σ3 L3 => ∃ F3, Ent L3 (cell d (.frz od (.dK kvs)) :: F3) ∧ Pv (i + 1) σ3 F3) (fun v L3 => ∃ F3, Ent L3 (cell d (.frz od (.dK kvs)) :: F3) ∧ rt v (cell d (.dK kvs) :: F3))
      (fun σ3 L3 => ∃ F3, Ent L3 (cell d (.frz od (.dK kvs)) :: F3) ∧ nx σ3 (cell d (.dK kvs) :: F3)) (fun σ3 L3 => ∃ F3, Ent L3 (cell d (.frz od (.dK kvs)) :: F3) ∧ Pv (i + 1) σ3 F3))
    (done : ∀ σ' F', Pv kvs.length σ' F' → nx σ' (cell d (.dK kvs) :: F')) : WpS L σ (tLock (tFor (iKeys te) g tb)) nx rt bk ct := by
  refine wps_ent pk.ent (wps_lock (d := d) (o := .dK kvs) (fun od => cell d (.frz od (.dK kvs)) :: F) trivial (fun od => .here) fun od => ?_)
  have main : WpS (cell d (.frz od (.dK kvs)) :: F) σ (tFor (iKeys te) g tb) (fun σ' L' => ∃ F3, Ent L' (cell d (.frz od (.dK kvs)) :: F3) ∧ nx σ' (cell d (.dK kvs) :: F3)) (fun v L' => ∃ F3, Ent L' (cell d (.frz od (.dK kvs)) :: F3) ∧ rt v (cell d (.dK kvs) :: F3)) F0 F0 := by
    obtain ⟨F0, e0, p0⟩ := p0
    refine wps_forU (wpi_keys (wpe_mono (he od) fun v L' ⟨e1, e2⟩ => ⟨d, od, kvs, e1, by rw [e2]; exact .here, kvs.length, _, _, iter_keys, fun i σ' L' => ∃ F', L' = cell d (.frz od (.dK kvs)) :: F' ∧ Pv i σ' F', ?_, ?_, ?_, ?_⟩))
    · subst e2
      exact ⟨_, e0.cons, F0, rfl, p0⟩
    · rintro i σ' L' _ ⟨F', rfl, _⟩
      exact .here
    · rintro i σ' L' x L'' hi ⟨F', rfl, p⟩ ⟨⟨k, v, hk, rfl⟩, rfl⟩
      refine fun H Q s q => turn od i σ' F' k v hk p H Q s fun σ2 L2 H2 w s2 => q σ2 L2 H2 ?_ s2
      refine fun H3 D s3 l => w H3 D s3 ⟨fun σ4 L4 H4 ⟨F4, e4, k4⟩ s4 => l.nx σ4 L4 H4 ⟨_, e4, F4, rfl, k4⟩ s4, l.rt, l.bk, fun σ4 L4 H4 ⟨F4, e4, k4⟩ s4 => l.ct σ4 L4 H4 ⟨_, e4, F4, rfl, k4⟩ s4⟩
    · rintro σ' L' ⟨F', rfl, p⟩
      exact ⟨F', .refl _, done σ' F' p⟩
  exact fun H D s l => main H D s ⟨fun σ' L' H' ⟨F3, e, k⟩ s' => l.nx σ' _ H' ⟨_, .here, k⟩ (e.ap s'), fun v L' H' ⟨F3, e, k⟩ s' => l.rt v _ H' ⟨_, .here, k⟩ (e.ap s'), fun _ _ _ z => z.elim, fun _ _ _ z => z.elim⟩
/-! ### comprehensions, by their source -/
theorem wpe_lcL {vs : List Nat} {te0 : TE} (h : WpE L σ te0 fun x L1 => ∃ a xs, x = .ref a ∧ HasL Kf L1 a xs ∧ xs.length ≤ 1000000 ∧ ∃ Pv : Nat → List V → List As → Prop, Pv 0 [] L1 ∧ (∀ i acc L', Pv i acc L' → HasL Kf L' a xs ∧ acc.length ≤ i) ∧
      (∀ D i acc L' x, xs[i]? = some x → Pv i acc L' → WpG (cell D (.lst acc) :: L') (wipe σ vs) g x fun σ2 L2 => wipe σ2 vs = wipe σ vs ∧ WpT L2 σ2 tt fun b L3 =>
        if b = true then WpE L3 σ2 te fun y L4 => ∃ L5, Ent L4 (cell D (.lst acc) :: L5) ∧ Pv (i + 1) (acc ++ [y]) L5 else ∃ L5, Ent L3 (cell D (.lst acc) :: L5) ∧ Pv (i + 1) acc L5) ∧
      ∀ D acc L', Pv xs.length acc L' → K (.ref D) (cell D (.lst acc) :: L')) : WpE L σ (tLc (iList Kf te0) g tt te vs) K :=
  wpe_lc (wpi_list (wpe_mono h fun v L' ⟨a, xs, e, hl, hz, Pv, p0, p1, turn, done⟩ => ⟨a, xs, e, hl, xs.length, _, _, iter_list, hz, Pv, p0, fun D i acc L' _ p => ⟨(p1 i acc L' p).1.there, (p1 i acc L' p).2⟩, fun D i acc L' x L'' hi p ⟨y, e2⟩ => by
      subst e2
      exact turn D i acc L' x y p, done⟩))
theorem wpe_lcR {vs : List Nat} {ta : TA} (h : WpA L σ ta fun us L1 => ∃ j : Int, us = [.int j] ∧ (0 ≤ j ∧ j ≤ 1000000) ∧ ∃ Pv : Nat → List V → List As → Prop, Pv 0 [] L1 ∧ (∀ i acc L', Pv i acc L' → acc.length ≤ i) ∧
      (∀ D (i : Nat) acc L', (i : Int) < j → Pv i acc L' → WpG (cell D (.lst acc) :: L') (wipe σ vs) g (.int (i : Int)) fun σ2 L2 => wipe σ2 vs = wipe σ vs ∧ WpT L2 σ2 tt fun b L3 =>
        if b = true then WpE L3 σ2 te fun y L4 => ∃ L5, Ent L4 (cell D (.lst acc) :: L5) ∧ Pv (i + 1) (acc ++ [y]) L5 else ∃ L5, Ent L3 (cell D (.lst acc) :: L5) ∧ Pv (i + 1) acc L5) ∧
      ∀ D acc L', Pv j.toNat acc L' → K (.ref D) (cell D (.lst acc) :: L')) : WpE L σ (tLc (iRng1 ta) g tt te vs) K :=
  wpe_lc (wpi_rng1 fun H Q s q => h H Q s fun us L' H' ⟨j, e, ⟨b1, b2⟩, Pv, p0, p1, turn, done⟩ s' => q us L' H' ⟨j, e, by omega, by omega, j.toNat, _, _, iter_range, by omega, Pv, p0, fun D i acc L' _ p => ⟨trivial, p1 i acc L' p⟩, fun D i acc L' x L'' hi p ⟨y, e2⟩ => by
    subst e2
    subst y
    rw [Int.zero_add]
    exact turn D i acc L' (by omega) p, done⟩ s')
/-- the items kept, each by itself -/
theorem wpe_lcP {vs : List Nat} {te0 : TE} (h : WpE L σ te0 fun x L1 => ∃ a xs, x = .ref a ∧ HasL Kf L1 a xs ∧ xs.length ≤ 1000000 ∧ ∃ (p : V → Bool) (f : V → V),
      (∀ D acc x, x ∈ xs → WpG (cell D (.lst acc) :: L1) (wipe σ vs) g x fun σ2 L2 => wipe σ2 vs = wipe σ vs ∧ WpT L2 σ2 tt fun b L3 =>
        if b = true then p x = true ∧ WpE L3 σ2 te fun y L4 => y = f x ∧ Ent L4 (cell D (.lst acc) :: L1) else p x = false ∧ Ent L3 (cell D (.lst acc) :: L1)) ∧
      ∀ D, K (.ref D) (cell D (.lst ((xs.filter p).map f)) :: L1)) : WpE L σ (tLc (iList Kf te0) g tt te vs) K :=
  wpe_lcL (wpe_mono h fun v L' ⟨a, xs, e, hl, hz, p, f, turn, done⟩ => ⟨a, xs, e, hl, hz, fun i acc L2 => L2 = L' ∧ acc = ((xs.take i).filter p).map f, ⟨rfl, rfl⟩, fun i acc L2 ⟨e1, e2⟩ => ⟨by rw [e1]; exact hl, by
    rw [e2, List.length_map]
    exact Nat.le_trans (List.length_filter_le _ _) (by rw [List.length_take]; omega)⟩, fun D i acc L2 x hx ⟨e1, e2⟩ => by
      subst e1
      have hm : x ∈ xs := List.mem_of_getElem? hx
      have ht : xs.take (i + 1) = xs.take i ++ [x] := by rw [List.take_succ, hx]; rfl
      refine fun H Q s q => turn D acc x hm H Q s fun σ2 L3 H3 ⟨w1, w2⟩ s3 => q σ2 L3 H3 ⟨w1, fun H4 Q4 s4 q4 => w2 H4 Q4 s4 fun b L5 H5 kb s5 => q4 b L5 H5 ?_ s5⟩ s3
      cases b with
      | true =>
        obtain ⟨px, we⟩ := (show p x = true ∧ _ from kb)
        refine fun H6 Q6 s6 q6 => we H6 Q6 s6 fun y L7 H7 ⟨ey, en⟩ s7 => q6 y L7 H7 ⟨_, en, rfl, ?_⟩ s7
        rw [ht, List.filter_append, List.map_append, ← e2, ey]
        simp [px]
      | false =>
        obtain ⟨px, en⟩ := (show p x = false ∧ _ from kb)
        refine ⟨_, en, rfl, ?_⟩
        rw [ht, List.filter_append, List.map_append, ← e2]
        simp [px], fun D acc L2 ⟨e1, e2⟩ => by
      rw [e1, e2, List.take_length]
      exact done D⟩)
/-- over a range, each by itself -/
theorem wpe_lcRP {vs : List Nat} {ta : TA} (h : WpA L σ ta fun us L1 => ∃ j : Int, us = [.int j] ∧ (0 ≤ j ∧ j ≤ 1000000) ∧ ∃ f : Nat → V,
      (∀ D acc (i : Nat), (i : Int) < j → WpG (cell D (.lst acc) :: L1) (wipe σ vs) g (.int (i : Int)) fun σ2 L2 => wipe σ2 vs = wipe σ vs ∧ WpE L2 σ2 te fun y L4 => y = f i ∧ Ent L4 (cell D (.lst acc) :: L1)) ∧
      ∀ D, K (.ref D) (cell D (.lst ((List.range j.toNat).map f)) :: L1)) : WpE L σ (tLc (iRng1 ta) g tYes te vs) K :=
  wpe_lcR fun H Q s q => h H Q s fun us L' H' ⟨j, e, b, f, turn, done⟩ s' => q us L' H' ⟨j, e, b, fun i acc L2 => L2 = L' ∧ acc = (List.range i).map f, ⟨rfl, rfl⟩, fun i acc L2 ⟨_, e2⟩ => by rw [e2]; simp, fun D i acc L2 hi ⟨e1, e2⟩ => by
    subst e1
    refine fun H Q s q => turn D acc i hi H Q s fun σ2 L3 H3 ⟨w1, w2⟩ s3 => q σ2 L3 H3 ⟨w1, wpt_yes ?_⟩ s3
    refine iteT ?_
    refine fun H6 Q6 s6 q6 => w2 H6 Q6 s6 fun y L7 H7 ⟨ey, en⟩ s7 => q6 y L7 H7 ⟨_, en, rfl, ?_⟩ s7
    rw [List.range_succ, List.map_append, ← e2, ey]
    rfl, fun D acc L2 ⟨e1, e2⟩ => by
    rw [e1, e2]
    exact done D⟩ s'
end
end Q

namespace Q
open PySem PySem.Spec L2
open PyProof.Rows (envOfC)
/-! ### what the laws' helpers and the words of the program promise -/
theorem line_le {n : Nat} (h : n ≤ 100000) : n ≤ sizeLine := Nat.le_trans h (by decide)
theorem line_lt {n : Nat} (h : n < 100000) : n < sizeLine := Nat.lt_of_lt_of_le h (by decide)
theorem not_t {b : Bool} (h : (!b) = true) : b = false := by cases b <;> simp_all
theorem not_f {b : Bool} (h : (!b) = false) : b = true := by cases b <;> simp_all
def amt : V → Bool
  | .int n => decide (1 ≤ n) && decide (n ≤ 10 ^ 30)
  | _ => false
theorem amt_some {x : V} (h : amt x = true) : ∃ n, x = .int n ∧ 1 ≤ n ∧ n ≤ 10 ^ 30 := by
  cases x with
  | int n =>
    simp only [amt, Bool.and_eq_true, decide_eq_true_eq] at h
    exact ⟨n, rfl, h⟩
  | _ => cases h
theorem amt_int {n : Int} (h1 : 1 ≤ n) (h2 : n ≤ 10 ^ 30) : amt (.int n) = true := by
  simp only [amt, Bool.and_eq_true, decide_eq_true_eq]
  exact ⟨h1, h2⟩
theorem amt_no {n : Int} (h : ¬ (1 ≤ n ∧ n ≤ 10 ^ 30)) : amt (.int n) = false := by
  simp only [amt, Bool.and_eq_false_iff, decide_eq_false_iff_not]
  omega
/-- a cell of the script, 0 where it has none -/
def cellI (ns : List Int) (k : Int) : Int := ns.getD k.toNat 0
theorem cell_at {ns : List Int} {k : Int} (h0 : 0 ≤ k) (h : k < ((ns.map V.int).length : Int)) : atI (ns.map V.int) k = some (.int (cellI ns k)) := by
  rw [List.length_map] at h
  obtain ⟨j, rfl⟩ : ∃ j : Nat, k = (j : Int) := ⟨k.toNat, by omega⟩
  have h' : j < ns.length := by omega
  refine atI_nat ?_
  rw [List.getElem?_map, List.getElem?_eq_getElem h']
  unfold cellI
  rw [List.getD_eq_getElem?_getD, Int.toNat_natCast, List.getElem?_eq_getElem h']
  rfl
theorem cell_out {ns : List Int} {k : Int} (h0 : 0 ≤ k) (h : ¬ k < ((ns.map V.int).length : Int)) : cellI ns k = 0 := by
  rw [List.length_map] at h
  unfold cellI
  rw [List.getD_eq_getElem?_getD, List.getElem?_eq_none (by omega)]
  rfl
def B_whole : Bd := fun vs L K _ => ∃ x t, vs = [x] ∧ Ty L x t ∧ K (.bl (isI x)) L
def B_amount (Kf : PySem.W.Frag) : Bd := fun vs L K KE => ∃ x t, vs = [x] ∧ Ty L x t ∧ (amt x = true → K x L) ∧ (amt x = false → KE (.ref (He.ga Kf "NoAmount")) none L)
def B_cell (Kf : PySem.W.Frag) : Bd := fun vs L K _ => ∃ (a : Addr) (ns : List Int) (k : Int), vs = [.ref a, .int k] ∧ 0 ≤ k ∧ HasL Kf L a (ns.map V.int) ∧ K (.int (cellI ns k)) L
theorem whole_eq (x : V) (c : (isI x || isBl x) = true) : (!isBl x) = isI x := by cases x <;> simp_all [isI, isBl]
theorem whole_no (x : V) (c : (isI x || isBl x) = false) : false = isI x := by cases x <;> simp_all [isI, isBl]
/-- the small letters -/
def letters : List Nat := (Str.ofString "abcdefghijklmnopqrstuvwxyz").cps.toList
def lowS (z : Str) : Bool := z.cps.toList.all fun c => decide (c ∈ letters)
/-- a text that is a name -/
def nameS (z : Str) : Bool := decide (1 ≤ z.length) && (decide (z.length ≤ 12) && lowS z)
def isName : V → Bool
  | .str z => nameS z
  | _ => false
theorem isName_some {x : V} (h : isName x = true) : ∃ z, x = .str z ∧ nameS z = true := by
  cases x with
  | str z => exact ⟨z, rfl, h⟩
  | _ => cases h
theorem nameS_len {z : Str} (h : nameS z = true) : 1 ≤ z.length ∧ z.length ≤ 12 ∧ lowS z = true := by
  simp only [nameS, Bool.and_eq_true, decide_eq_true_eq] at h
  exact h
/-- a text within bounds -/
def okS : V → Prop
  | .str z => z.length ≤ 1000
  | _ => True
def B_name (Kf : PySem.W.Frag) : Bd := fun vs L K KE => ∃ x t, vs = [x] ∧ Ty L x t ∧ okS x ∧ (isName x = true → K x L) ∧ (isName x = false → KE (.ref (He.ga Kf "NoName")) none L)
/-- the law's own look at a name -/
def B_isname : Bd := fun vs L K _ => ∃ x t, vs = [x] ∧ Ty L x t ∧ okS x ∧ K (.bl (isName x)) L
theorem all_take {p : Nat → Bool} {l : List Nat} {i : Nat} {c : Nat} (h : (l.take i).all p = true) (hc : l[i]? = some c) (pc : p c = true) : (l.take (i + 1)).all p = true := by
  rw [List.take_succ, hc, List.all_append, h]
  simp [pc]
theorem all_not {p : Nat → Bool} {l : List Nat} {i : Nat} {c : Nat} (hc : l[i]? = some c) (pc : p c = false) : l.all p = false := by
  cases e : l.all p with
  | false => rfl
  | true =>
    have := List.all_eq_true.mp e c (List.mem_of_getElem? hc)
    rw [pc] at this
    cases this
theorem len_one (z : Str) : z.cps.toList.length = z.length := Array.length_toList
theorem str_empty {z : Str} : z = Str.ofString "" ↔ z.length = 0 := by
  constructor
  · intro h
    rw [h]
    decide +kernel
  · intro h
    have e : z.cps = #[] := Array.eq_empty_of_size_eq_zero h
    obtain ⟨c⟩ := z
    have e2 : c = #[] := e
    rw [e2]
    decide +kernel
/-- an item at a place in bounds -/
theorem atI_in {α : Type} {xs : List α} {i : Int} (h0 : 0 ≤ i) (h : i < (xs.length : Int)) : ∃ x, atI xs i = some x ∧ x ∈ xs := by
  obtain ⟨j, rfl⟩ : ∃ j : Nat, i = (j : Int) := ⟨i.toNat, by omega⟩
  have hj : j < xs.length := by omega
  exact ⟨xs[j], atI_nat (List.getElem?_eq_getElem hj), List.getElem_mem hj⟩
/-- the laws' mixing of numbers -/
def mixI (n k : Int) : Int := (n * 6364136223846793005 + k * 1442695040888963407 + 1013904223) % 2305843009213693951
theorem mixI_nonneg (n k : Int) : 0 ≤ mixI n k := Int.emod_nonneg _ (by decide)
theorem mixI_lt (n k : Int) : mixI n k < 2305843009213693951 := Int.emod_lt_of_pos _ (by decide)
def B_mixed : Bd := fun vs L K _ => ∃ n k : Int, vs = [.int n, .int k] ∧ K (.int (mixI n k)) L
end Q

namespace Q
open PySem PySem.Spec L2
/-! ### the names that the laws make -/
def strL (l : List Nat) : Str := ⟨l.toArray⟩
theorem strL_list (l : List Nat) : (strL l).cps.toList = l := by simp [strL]
theorem strL_inj {a b : List Nat} (h : strL a = strL b) : a = b := by rw [← strL_list a, ← strL_list b, h]
theorem strL_of (z : Str) : strL z.cps.toList = z := by
  obtain ⟨c⟩ := z
  simp [strL]
theorem strL_app (a b : List Nat) : strL a ++ strL b = strL (a ++ b) := by
  show (⟨a.toArray ++ b.toArray⟩ : Str) = ⟨(a ++ b).toArray⟩
  simp
theorem strL_len (l : List Nat) : (strL l).length = l.length := by
  show l.toArray.size = l.length
  simp
theorem sign_eq (c : Nat) : (⟨#[c]⟩ : Str) = strL [c] := rfl
def letter (i : Int) : Nat := letters.getD i.toNat 0
theorem letters_length : letters.length = 26 := by decide +kernel
theorem letters_nodup : letters.Nodup := by decide +kernel
theorem letter_mem {i : Int} (h0 : 0 ≤ i) (h : i < 26) : letter i ∈ letters := by
  unfold letter
  rw [List.getD_eq_getElem?_getD, List.getElem?_eq_getElem (by rw [letters_length]; omega)]
  exact List.getElem_mem _
theorem letter_at {i : Int} (h0 : 0 ≤ i) (h : i < 26) : atI (Str.ofString "abcdefghijklmnopqrstuvwxyz").cps.toList i = some (letter i) := by
  obtain ⟨j, rfl⟩ : ∃ j : Nat, i = (j : Int) := ⟨i.toNat, by omega⟩
  have hj : j < letters.length := by rw [letters_length]; omega
  refine atI_nat ?_
  show letters[j]? = some (letter j)
  unfold letter
  rw [List.getD_eq_getElem?_getD, Int.toNat_natCast, List.getElem?_eq_getElem hj]
  rfl
theorem letter_inj {i j : Int} (hi : 0 ≤ i) (hi2 : i < 26) (hj : 0 ≤ j) (hj2 : j < 26) (h : letter i = letter j) : i = j := by
  have a : i.toNat < letters.length := by rw [letters_length]; omega
  have b : j.toNat < letters.length := by rw [letters_length]; omega
  unfold letter at h
  rw [List.getD_eq_getElem?_getD, List.getD_eq_getElem?_getD, List.getElem?_eq_getElem a, List.getElem?_eq_getElem b] at h
  have := (List.getElem_inj letters_nodup).mp (show letters[i.toNat] = letters[j.toNat] from h)
  omega
def toldL (k : Int) : List Nat := [letter (k / 26 % 26), letter (k % 26)]
def restN (r : Int) : Nat → Int
  | 0 => r
  | i + 1 => restN r i / 26
def moreN (r : Int) (n : Nat) : List Nat := (List.range n).map fun j => letter (restN r j / 300 % 26)
theorem moreN_succ (r : Int) (n : Nat) : moreN r (n + 1) = moreN r n ++ [letter (restN r n / 300 % 26)] := by
  unfold moreN
  rw [List.range_succ, List.map_append]
  rfl
theorem moreN_len (r : Int) (n : Nat) : (moreN r n).length = n := by simp [moreN]
def wordL (k c : Int) : List Nat :=
  if c % 2 = 1 then
    if mixI c k % 12 = 11 ∧ k < 26 then [letter k] else toldL k ++ moreN (mixI c k) (mixI c k / 12 % 11).toNat
  else
    (moreN (mixI c 0) (mixI c 0 / 12 % 11).toNat).take (c / 2 % ((mixI c 0 / 12 % 11).toNat + 1 : Nat)).toNat ++ toldL k ++ (moreN (mixI c 0) (mixI c 0 / 12 % 11).toNat).drop (c / 2 % ((mixI c 0 / 12 % 11).toNat + 1 : Nat)).toNat
def wordS (k c : Int) : Str := strL (wordL k c)
theorem mod26 (x : Int) : 0 ≤ x % 26 ∧ x % 26 < 26 := ⟨Int.emod_nonneg _ (by decide), Int.emod_lt_of_pos _ (by decide)⟩
theorem moreN_low (r : Int) (n : Nat) : ∀ x ∈ moreN r n, x ∈ letters := fun x h => by
  obtain ⟨j, _, rfl⟩ := List.mem_map.mp h
  exact letter_mem (mod26 _).1 (mod26 _).2
theorem toldL_low (k : Int) : ∀ x ∈ toldL k, x ∈ letters := fun x h => by
  rcases List.mem_cons.mp h with rfl | h
  · exact letter_mem (mod26 _).1 (mod26 _).2
  · rcases List.mem_cons.mp h with rfl | h
    · exact letter_mem (mod26 _).1 (mod26 _).2
    · cases h
theorem more_le (x : Int) : (x / 12 % 11).toNat ≤ 10 := by
  have := Int.emod_lt_of_pos (x / 12) (show (0 : Int) < 11 by decide)
  have := Int.emod_nonneg (x / 12) (show (11 : Int) ≠ 0 by decide)
  omega
theorem wordL_low {k c : Int} (h0 : 0 ≤ k) : ∀ x ∈ wordL k c, x ∈ letters := fun x h => by
  unfold wordL at h
  split at h
  · split at h
    · rename_i h1
      rcases List.mem_cons.mp h with rfl | h
      · exact letter_mem h0 h1.2
      · cases h
    · rcases List.mem_append.mp h with h | h
      · exact toldL_low k x h
      · exact moreN_low _ _ x h
  · rcases List.mem_append.mp h with h | h
    · rcases List.mem_append.mp h with h | h
      · exact moreN_low _ _ x (List.mem_of_mem_take h)
      · exact toldL_low k x h
    · exact moreN_low _ _ x (List.mem_of_mem_drop h)
theorem wordL_len (k c : Int) : 1 ≤ (wordL k c).length ∧ (wordL k c).length ≤ 12 := by
  unfold wordL
  split
  · split
    · simp
    · rw [List.length_append, moreN_len]
      have := more_le (mixI c k)
      show 1 ≤ 2 + _ ∧ 2 + _ ≤ 12
      omega
  · rw [List.length_append, List.length_append, List.length_take, List.length_drop, moreN_len]
    have := more_le (mixI c 0)
    show 1 ≤ _ + 2 + _ ∧ _ + 2 + _ ≤ 12
    omega
theorem wordS_len (k c : Int) : 1 ≤ (wordS k c).length ∧ (wordS k c).length ≤ 12 := by
  unfold wordS
  rw [strL_len]
  exact wordL_len k c
theorem wordS_name {k : Int} (c : Int) (h0 : 0 ≤ k) : nameS (wordS k c) = true := by
  obtain ⟨h1, h2⟩ := wordS_len k c
  unfold nameS lowS
  rw [decide_eq_true h1, decide_eq_true h2]
  show List.all _ _ = true
  refine List.all_eq_true.mpr fun x hx => decide_eq_true ?_
  unfold wordS at hx
  rw [strL_list] at hx
  exact wordL_low h0 x hx
theorem toldL_inj {j k : Int} (hj : 0 ≤ j) (hj2 : j < 676) (hk : 0 ≤ k) (hk2 : k < 676) (h : toldL j = toldL k) : j = k := by
  unfold toldL at h
  injection h with h1 h2
  injection h2 with h2 _
  have e1 := letter_inj (mod26 _).1 (mod26 _).2 (mod26 _).1 (mod26 _).2 h1
  have e2 := letter_inj (mod26 _).1 (mod26 _).2 (mod26 _).1 (mod26 _).2 h2
  omega
theorem wordL_inj {j k c : Int} (hj : 0 ≤ j) (hj2 : j < 676) (hk : 0 ≤ k) (hk2 : k < 676) (h : wordL j c = wordL k c) : j = k := by
  unfold wordL at h
  split at h
  · split at h
    · rename_i h1
      split at h
      · rename_i h2
        injection h with h _
        exact letter_inj hj h1.2 hk h2.2 h
      · have := congrArg List.length h
        rw [List.length_append] at this
        have e : 1 = 2 + _ := this
        omega
    · split at h
      · have := congrArg List.length h
        rw [List.length_append] at this
        have e : 2 + _ = 1 := this
        omega
      · have e := congrArg (List.take 2) h
        exact toldL_inj hj hj2 hk hk2 e
  · have e := List.append_cancel_right h
    exact toldL_inj hj hj2 hk hk2 (List.append_cancel_left e)
theorem wordS_inj {j k c : Int} (hj : 0 ≤ j) (hj2 : j < 676) (hk : 0 ≤ k) (hk2 : k < 676) (h : wordS j c = wordS k c) : j = k := wordL_inj hj hj2 hk hk2 (strL_inj h)
def B_word : Bd := fun vs L K _ => ∃ k c : Int, vs = [.int k, .int c] ∧ 0 ≤ k ∧ K (.str (wordS k c)) L
theorem cut_take {z : Str} {i : Nat} (h : i ≤ z.length) : cutS z none (some (i : Int)) = strL (z.cps.toList.take i) := by
  unfold cutS strL
  rw [HT.sIx_none, HT.sIx_nat, Nat.min_eq_left h]
  simp
theorem cut_drop {z : Str} {i : Nat} (h : i ≤ z.length) : cutS z (some (i : Int)) none = strL (z.cps.toList.drop i) := by
  unfold cutS strL
  rw [HT.sIx_none, HT.sIx_nat, Nat.min_eq_left h, List.take_of_length_le (by rw [List.length_drop, len_one]; omega)]
end Q

namespace Q
open PySem PySem.Spec L2
open PyProof.Rows (envOfC)
/-! ### data compared -/
/-- a text that may be compared within data -/
def okT (z : Str) : Prop := PyData.canLay0 (.str z) = true
def dS (xs : List Str) : PyData := .list (xs.map PyData.str)
theorem canLay_all : ∀ {xs : List PyData}, (∀ x ∈ xs, PyData.canLay0 x = true) → PyData.canLayAll0 xs = true
  | [], _ => rfl
  | x :: xs, h => by
    show (PyData.canLay0 x && PyData.canLayAll0 xs) = true
    rw [h x List.mem_cons_self, canLay_all fun y m => h y (List.mem_cons_of_mem _ m)]
    rfl
theorem depth_all : ∀ {xs : List PyData} {n : Nat}, (∀ x ∈ xs, x.depth ≤ n) → PyData.depthAll xs ≤ n
  | [], _, _ => Nat.zero_le _
  | x :: xs, n, h => by
    show max x.depth (PyData.depthAll xs) ≤ n
    exact Nat.max_le.mpr ⟨h x List.mem_cons_self, depth_all fun y m => h y (List.mem_cons_of_mem _ m)⟩
/-- data that may be compared, of nesting at most n -/
def okD (n : Nat) (d : PyData) : Prop := PyData.canLay0 d = true ∧ d.depth ≤ n
theorem okD.shaped {n : Nat} {d : PyData} (h : okD n d) (hn : n ≤ 64) : SeqAt.shaped d = true := by
  unfold SeqAt.shaped
  rw [h.1, decide_eq_true (Nat.le_trans h.2 hn)]
  rfl
theorem okD.str {n : Nat} {z : Str} (h : okT z) : okD n (.str z) := ⟨h, Nat.zero_le _⟩
theorem okD.int {n : Nat} {i : Int} : okD n (.int i) := ⟨rfl, Nat.zero_le _⟩
theorem okD.bool {n : Nat} {i : Bool} : okD n (.bool i) := ⟨rfl, Nat.zero_le _⟩
theorem okD.none {n : Nat} : okD n .none := ⟨rfl, Nat.zero_le _⟩
theorem okD.list {n : Nat} {xs : List PyData} (h : ∀ x ∈ xs, okD n x) : okD (n + 1) (.list xs) := ⟨canLay_all fun x m => (h x m).1, Nat.succ_le_succ (depth_all fun x m => (h x m).2)⟩
theorem okD.tuple {n : Nat} {xs : List PyData} (h : ∀ x ∈ xs, okD n x) : okD (n + 1) (.tuple xs) := ⟨canLay_all fun x m => (h x m).1, Nat.succ_le_succ (depth_all fun x m => (h x m).2)⟩
theorem okD.strs {xs : List Str} (h : ∀ x ∈ xs, okT x) : okD 1 (dS xs) := okD.list fun x m => by
  obtain ⟨z, hz, rfl⟩ := List.mem_map.mp m
  exact .str (h z hz)
theorem eqv_same {n : Nat} {d : PyData} (h : okD n d) : PyData.eqv d d = true := SeqAt.eqv_refl d h.1
theorem eqvAll_len : ∀ {xs ys : List PyData}, xs.length ≠ ys.length → PyData.eqvAll xs ys = false
  | [], [], h => absurd rfl h
  | [], _ :: _, _ => rfl
  | _ :: _, [], _ => rfl
  | x :: xs, y :: ys, h => by
    show (PyData.eqv x y && PyData.eqvAll xs ys) = false
    rw [eqvAll_len (xs := xs) (ys := ys) fun e => h (congrArg Nat.succ e), Bool.and_false]
theorem eqvS : ∀ (xs ys : List Str), PyData.eqvAll (xs.map PyData.str) (ys.map PyData.str) = decide (xs = ys)
  | [], [] => rfl
  | [], _ :: _ => rfl
  | _ :: _, [] => rfl
  | x :: xs, y :: ys => by
    show ((x == y) && PyData.eqvAll (xs.map PyData.str) (ys.map PyData.str)) = _
    rw [eqvS xs ys, Bool.eq_iff_iff]
    simp
theorem eqv_strs (xs ys : List Str) : PyData.eqv (dS xs) (dS ys) = decide (xs = ys) := eqvS xs ys
section
variable {L L1 : List As} {K : VL} {Kf : PySem.W.Frag} {x y : V}
def DpL (Kf : PySem.W.Frag) (L : List As) (x : V) (d : PyData) : Prop := ∀ H, Sats H L → Dp Kf H x d
theorem dpAll_of {H : Hp} : ∀ {xs : List V} {ds : List PyData}, xs.length = ds.length → (∀ (i : Nat) v d, xs[i]? = some v → ds[i]? = some d → Dp Kf H v d) → DpAll Kf H xs ds
  | [], [], _, _ => .nil
  | [], _ :: _, h, _ => by cases h
  | _ :: _, [], h, _ => by cases h
  | v :: xs, d :: ds, h, f => .cons (f 0 v d rfl rfl) (dpAll_of (Nat.succ.inj h) fun i v' d' e1 e2 => f (i + 1) v' d' e1 e2)
theorem dpAll_strs {H : Hp} : ∀ (xs : List Str), DpAll Kf H (xs.map V.str) (xs.map PyData.str)
  | [] => .nil
  | x :: xs => .cons (.str x) (dpAll_strs xs)
theorem dpl_strs {a : Addr} {xs : List Str} (h : HasL Kf L a (xs.map V.str)) : DpL Kf L (.ref a) (dS xs) := fun H s => .lst (h.sq s) (dpAll_strs xs)
theorem wr_eqD {d e : PyData} (hx : DpL Kf L x d) (hy : DpL Kf L y e) (sd : SeqAt.shaped d = true) (se : SeqAt.shaped e = true) (k : K (.bl (PyData.eqv d e)) L) : WpR L (rEqD Kf) x y K := fun H Q s q => ⟨d, e, hx H s, hy H s, sd, se, q _ _ _ k s⟩
theorem wr_neD {d e : PyData} (hx : DpL Kf L x d) (hy : DpL Kf L y e) (sd : SeqAt.shaped d = true) (se : SeqAt.shaped e = true) (k : K (.bl (!PyData.eqv d e)) L) : WpR L (rNeD Kf) x y K := fun H Q s q => ⟨d, e, hx H s, hy H s, sd, se, q _ _ _ k s⟩
end
/-! ### two dicts that are alike are not unequal -/
def rNeDD (K : PySem.W.Frag) : R2 := fun x y H Q => ∃ a b ks ls, x = .ref a ∧ y = .ref b ∧ H a = some (.dK ks) ∧ H b = some (.dK ls) ∧ ks.length = ls.length ∧
  (∀ p ∈ ks, ∃ u d, valV ls p.1 = some u ∧ Dp K H p.2 d ∧ Dp K H u d ∧ SeqAt.shaped d = true) ∧ Q (.bl false) H
theorem kv_tail {A : Around} {s : Shared} {X : Cx} {pins : List (Addr × Obj)} {σ : L2.St} {H : Hp} (I : Inv X pins σ H s) {ls : List (Key × V)} {vb : List (Key × Value)} (rb : KV ls vb) (hu : A.in1.units + 64 < cLine) :
    ∀ {ks : List (Key × V)} {va : List (Key × Value)}, KV ks va → (∀ p ∈ ks, ∃ u d, valV ls p.1 = some u ∧ Dp X.K H p.2 d ∧ Dp X.K H u d ∧ SeqAt.shaped d = true) → PySem.W.KeqHits A.in1 s vb va true
  | _, _, .nil, _ => .nil
  | p :: ks, q :: va, .cons r t, h => by
    obtain ⟨u, d, h1, h2, h3, h4⟩ := h p List.mem_cons_self
    obtain ⟨y, hy, ry⟩ := RelO.some_of (v := u) (o := valueAt vb p.1) (by rw [← h1]; exact rb.val p.1)
    obtain ⟨as, r1⟩ := Dp.reads I d p.2 q.2 h2 r.2
    obtain ⟨bs, r2⟩ := Dp.reads I d u y h3 ry
    have ih := kv_tail (A := A) I rb hu t fun p' m => h p' (List.mem_cons_of_mem _ m)
    have e := SeqAt.eqAt_reads d d A.in1 s q.2 y as bs r1 r2 (SeqAt.canLay_of_shaped h4) (SeqAt.canLay_of_shaped h4) (SeqAt.room_of_shaped h4 hu)
    rw [SeqAt.eqv_refl d (SeqAt.canLay_of_shaped h4)] at e
    obtain ⟨q1, q2⟩ := q
    obtain ⟨p1, p2⟩ := p
    have ek : p1 = q1 := r.1
    subst ek
    exact PySem.W.KeqHits.hit (e := true) (b := true) hy e ih
theorem op_neDD {X : Cx} (hu : X.A.units + 66 < cLine) : OpR X (compareOp .NotEq) (rNeDD X.K) := by
  intro pins s σ H x y v u Q I rx ry h
  obtain ⟨a, b, ks, ls, rfl, rfl, ha, hb, hl, hp, q⟩ := h
  cases (show v = Value.ref a from rx)
  cases (show u = Value.ref b from ry)
  obtain ⟨_, ya, va, ra, da⟩ := (show ObjOk X.prog X.w H s.heap a (.dK ks) from I.hok a _ ha)
  obtain ⟨_, yb, vb, rb, db⟩ := (show ObjOk X.prog X.w H s.heap b (.dK ls) from I.hok b _ hb)
  refine PySem.W.keq_ne (knd := mixKind X.prog X.w) (r := true) ya yb da db (by omega) (fun _ => kv_tail (A := X.A) I rb (by show X.A.units + 1 + 64 < cLine; omega) ra hp) ?_
  have e : va.length = vb.length := by rw [← ra.length, ← rb.length]; exact hl
  rw [show (!(va.length == vb.length && true)) = false from by rw [e]; simp]
  exact ⟨.bl false, H, I, rfl, q⟩
theorem wr_neDD {L : List As} {K : VL} {Kf : PySem.W.Frag} {a b : Addr} {ks ls : List (Key × V)} (ha : Has (cell a (.dK ks)) L) (hb : Has (cell b (.dK ls)) L) (hl : ks.length = ls.length)
    (h : ∀ p ∈ ks, ∃ u d, valV ls p.1 = some u ∧ DpL Kf L p.2 d ∧ DpL Kf L u d ∧ SeqAt.shaped d = true) (k : K (.bl false) L) : WpR L (rNeDD Kf) (.ref a) (.ref b) K := fun H Q s q =>
  ⟨a, b, ks, ls, rfl, rfl, s.has ha, s.has hb, hl, fun p m => by
    obtain ⟨u, d, h1, h2, h3, h4⟩ := h p m
    exact ⟨u, d, h1, h2 H s, h3 H s, h4⟩, q _ _ _ k s⟩
end Q

namespace Q
open PySem PySem.Spec L2
open PyProof.Rows (envOfC)
/-! ### the greatest set -/
def metB (ws kept done : List Str) : Bool := ws.all fun x => decide (x ∈ kept) || decide (x ∈ done)
def Closed (nf : Str → List Str) (done S : List Str) : Prop := ∀ n ∈ S, ∀ x ∈ nf n, x ∈ S ∨ x ∈ done
theorem metB_true {ws kept done : List Str} : metB ws kept done = true ↔ ∀ x ∈ ws, x ∈ kept ∨ x ∈ done := by
  unfold metB
  rw [List.all_eq_true]
  constructor
  · intro h x m
    have := h x m
    simpa using this
  · intro h x m
    simpa using h x m
structure GrInv (nf : Str → List Str) (full done k : List Str) : Prop where
  sub : ∃ q : Str → Bool, k = full.filter q
  top : ∀ S : List Str, (∀ x ∈ S, x ∈ full) → Closed nf done S → ∀ x ∈ S, x ∈ k
structure IsGr (nf : Str → List Str) (full done k : List Str) : Prop extends GrInv nf full done k where
  closed : Closed nf done k
theorem GrInv.start {nf : Str → List Str} {full done : List Str} : GrInv nf full done full := ⟨⟨fun _ => true, (List.filter_eq_self.mpr fun _ _ => rfl).symm⟩, fun S h _ x m => h x m⟩
theorem GrInv.step {nf : Str → List Str} {full done k : List Str} (h : GrInv nf full done k) : GrInv nf full done (k.filter fun n => metB (nf n) k done) := by
  obtain ⟨⟨q, e⟩, t⟩ := h
  refine ⟨⟨fun n => q n && metB (nf n) k done, ?_⟩, fun S hS cS x m => List.mem_filter.mpr ⟨t S hS cS x m, metB_true.mpr fun y my => ?_⟩⟩
  · conv => lhs; rw [e]
    rw [List.filter_filter]
    subst e
    congr 1
    funext n
    rw [Bool.and_comm]
  · rcases cS x m y my with z | z
    · exact .inl (t S hS cS y z)
    · exact .inr z
theorem GrInv.stop {nf : Str → List Str} {full done k : List Str} (h : GrInv nf full done k) (e : ¬ (k.filter fun n => metB (nf n) k done).length < k.length) : IsGr nf full done (k.filter fun n => metB (nf n) k done) := by
  refine ⟨h.step, ?_⟩
  have hk : (k.filter fun n => metB (nf n) k done) = k := by
    refine List.filter_eq_self.mpr fun n m => ?_
    have h2 := List.length_filter_le (fun n => metB (nf n) k done) k
    have h3 : (k.filter fun n => metB (nf n) k done).length = k.length := by omega
    exact List.length_filter_eq_length_iff.mp h3 n m
  rw [hk]
  intro n m x mx
  have h4 : metB (nf n) k done = true := by
    rw [← hk] at m
    exact (List.mem_filter.mp m).2
  exact metB_true.mp h4 x mx
theorem IsGr.mem {nf : Str → List Str} {full done k : List Str} (h : IsGr nf full done k) {x : Str} (m : x ∈ k) : x ∈ full := by
  obtain ⟨q, e⟩ := h.sub
  rw [e] at m
  exact (List.mem_filter.mp m).1
/-- there is but one -/
theorem IsGr.uniq {nf : Str → List Str} {full done k k' : List Str} (h : IsGr nf full done k) (h' : IsGr nf full done k') : k = k' := by
  have e1 : ∀ x, x ∈ k ↔ x ∈ k' := fun x => ⟨fun m => h'.top k (fun y my => h.mem my) h.closed x m, fun m => h.top k' (fun y my => h'.mem my) h'.closed x m⟩
  obtain ⟨q, rfl⟩ := h.sub
  obtain ⟨q', rfl⟩ := h'.sub
  refine List.filter_congr fun x mx => ?_
  have := e1 x
  rw [List.mem_filter, List.mem_filter] at this
  cases e : q x <;> cases e' : q' x <;> simp_all
/-! ### what the defs promise -/
theorem inV_strs (x : Str) (xs : List Str) : inV (.str x) (xs.map V.str) = decide (x ∈ xs) := by
  unfold inV
  induction xs with
  | nil => rfl
  | cons y ys ih =>
    rw [List.map_cons, List.any_cons, ih]
    show ((y == x) || decide (x ∈ ys)) = decide (x ∈ y :: ys)
    rw [Bool.eq_iff_iff, Bool.or_eq_true, beq_iff_eq, decide_eq_true_iff, decide_eq_true_iff, List.mem_cons]
    constructor
    · rintro (e | e)
      · exact .inl e.symm
      · exact .inr e
    · rintro (e | e)
      · exact .inl e.symm
      · exact .inr e
theorem flat_strs (xs : List Str) : (xs.map V.str).all flatV = true := by
  rw [List.all_eq_true]
  intro v m
  obtain ⟨z, _, rfl⟩ := List.mem_map.mp m
  rfl
theorem wr_inStrs {L : List As} {K : VL} {Kf : PySem.W.Frag} {a : Addr} {xs : List Str} {x : Str} (h : HasL Kf L a (xs.map V.str)) (k : K (.bl (decide (x ∈ xs))) L) : WpR L (rIn Kf false) (.str x) (.ref a) K :=
  wr_in h rfl (flat_strs xs) (by rw [if_neg Bool.false_ne_true, inV_strs]; exact k)
theorem wr_niStrs {L : List As} {K : VL} {Kf : PySem.W.Frag} {a : Addr} {xs : List Str} {x : Str} (h : HasL Kf L a (xs.map V.str)) (k : K (.bl (!decide (x ∈ xs))) L) : WpR L (rIn Kf true) (.str x) (.ref a) K :=
  wr_in h rfl (flat_strs xs) (by rw [if_pos rfl, inV_strs]; exact k)
theorem HasD.there {A : As} {L : List As} {a : Addr} {kvs : List (Key × V)} (h : HasD L a kvs) : HasD (A :: L) a kvs := by
  rcases h with h | ⟨o, h⟩
  · exact .inl (.there h)
  · exact .inr ⟨o, .there h⟩
def B_met (Kf : PySem.W.Frag) : Bd := fun vs L K _ => ∃ (aw ak ad : Addr) (ws kept done : List Str), vs = [.ref aw, .ref ak, .ref ad] ∧ HasL Kf L aw (ws.map V.str) ∧ HasL Kf L ak (kept.map V.str) ∧ HasL Kf L ad (done.map V.str) ∧ K (.bl (metB ws kept done)) L
/-- a dict of lists of texts: each of these names has its list -/
def NeedsAt (Kf : PySem.W.Frag) (L : List As) (kvs : List (Key × V)) (nf : Str → List Str) (names : List Str) : Prop := ∀ n ∈ names, ∃ b, valV kvs (Sum.inr n) = some (.ref b) ∧ HasL Kf L b ((nf n).map V.str)
theorem NeedsAt.there {Kf : PySem.W.Frag} {A : As} {L : List As} {kvs : List (Key × V)} {nf : Str → List Str} {names : List Str} (h : NeedsAt Kf L kvs nf names) : NeedsAt Kf (A :: L) kvs nf names := fun n m => by
  obtain ⟨b, h1, h2⟩ := h n m
  exact ⟨b, h1, h2.there⟩
def B_greatest (Kf : PySem.W.Frag) : Bd := fun vs L K _ => ∃ (af d ad : Addr) (full done : List Str) (kvs : List (Key × V)) (nf : Str → List Str), vs = [.ref af, .ref d, .ref ad] ∧ HasL Kf L af (full.map V.str) ∧ HasL Kf L ad (done.map V.str) ∧ HasD L d kvs ∧
  NeedsAt Kf L kvs nf full ∧ full.length ≤ 100000 ∧ ∀ k p, IsGr nf full done k → K (.ref p) (cell p (.lst (k.map V.str)) :: L)
theorem all_takeS {p : Str → Bool} {l : List Str} {i : Nat} {c : Str} (h : (l.take i).all p = true) (hc : l[i]? = some c) (pc : p c = true) : (l.take (i + 1)).all p = true := by
  rw [List.take_succ, hc, List.all_append, h]
  simp [pc]
theorem all_notS {p : Str → Bool} {l : List Str} {i : Nat} {c : Str} (hc : l[i]? = some c) (pc : p c = false) : l.all p = false := by
  cases e : l.all p with
  | false => rfl
  | true =>
    have := List.all_eq_true.mp e c (List.mem_of_getElem? hc)
    rw [pc] at this
    cases this
theorem map_str_at {l : List Str} {i : Nat} {x : V} (h : (l.map V.str)[i]? = some x) : ∃ z, l[i]? = some z ∧ x = .str z := by
  rw [List.getElem?_map] at h
  cases e : l[i]? with
  | none => rw [e] at h; cases h
  | some z => rw [e] at h; exact ⟨z, rfl, (Option.some.inj h).symm⟩
/-- a test upon texts, as one upon values -/
def onS (p : Str → Bool) : V → Bool
  | .str z => p z
  | _ => false
theorem filter_strs (p : Str → Bool) (l : List Str) : ((l.map V.str).filter (onS p)).map id = (l.filter p).map V.str := by
  rw [List.map_id]
  induction l with
  | nil => rfl
  | cons z l ih =>
    rw [List.map_cons, List.filter_cons, List.filter_cons]
    show (if p z = true then _ else _) = _
    by_cases h : p z = true
    · rw [if_pos h, if_pos h, List.map_cons, ih]
    · rw [if_neg h, if_neg h, ih]
/-- the law's words -/
def wordsL (n : Nat) (c : Int) : List Str := (List.range n).map fun (k : Nat) => wordS (k : Int) c
def B_words (Kf : PySem.W.Frag) : Bd := fun vs L K _ => ∃ (a : Addr) (ns : List Int), vs = [.ref a] ∧ HasL Kf L a (ns.map V.int) ∧ ∀ (n : Nat) p, 2 ≤ n → n ≤ 40 → K (.ref p) (cell p (.lst ((List.range n).map fun (k : Nat) => V.str (wordS (k : Int) (cellI ns 1)))) :: L)
def B_needs (Kf : PySem.W.Frag) : Bd := fun vs L K _ => ∃ (c : Int) (a : Addr) (xs : List Str), vs = [.int c, .ref a] ∧ HasL Kf L a (xs.map V.str) ∧ xs ≠ [] ∧ xs.length ≤ 100000 ∧ ∀ (ys : List Str) p, ys.length ≤ 8 → (∀ y ∈ ys, y ∈ xs) → K (.ref p) (cell p (.lst (ys.map V.str)) :: L)
theorem wordsL_v (n : Nat) (c : Int) : ((List.range n).map fun (k : Nat) => V.str (wordS (k : Int) c)) = (wordsL n c).map V.str := by
  unfold wordsL
  rw [List.map_map]
  rfl
theorem wordsL_nodup {n : Nat} (c : Int) (h : n ≤ 676) : (wordsL n c).Nodup := by
  unfold wordsL
  refine List.pairwise_map.mpr (List.Pairwise.imp_of_mem (fun {i j} hi hj hne e => hne ?_) List.nodup_range)
  have h1 := List.mem_range.mp hi
  have h2 := List.mem_range.mp hj
  have := wordS_inj (j := i) (k := j) (c := c) (by omega) (by omega) (by omega) (by omega) e
  omega
theorem okT_low {z : Str} (h : ∀ x ∈ z.cps.toList, x ∈ letters) : okT z := by
  show (z.cps.all fun c => decide (c < 0x110000)) = true
  rw [Array.all_eq_true]
  intro i hi
  have m : z.cps[i] ∈ letters := h _ (by rw [← Array.getElem_toList]; exact List.getElem_mem _)
  have big : ∀ x ∈ letters, x < 0x110000 := by decide +kernel
  exact decide_eq_true (big _ m)
theorem wordS_ok {k : Int} (c : Int) (h : 0 ≤ k) : okT (wordS k c) := okT_low fun x m => by
  unfold wordS at m
  rw [strL_list] at m
  exact wordL_low h x m
theorem wordsL_ok {n : Nat} {c : Int} : ∀ z ∈ wordsL n c, okT z := fun z m => by
  obtain ⟨k, _, rfl⟩ := List.mem_map.mp m
  exact wordS_ok c (by omega)
end Q

namespace Q
open PySem PySem.Spec L2
open PyProof.Rows (envOfC)
/-! ### names with their needs, as the laws build them -/
abbrev NL := List (Str × Addr × List Str)
def kvN (nl : NL) : List (Key × V) := nl.map fun t => ((Sum.inr t.1 : Key), V.ref t.2.1)
def hoN (nl : NL) : List (Addr × HO) := nl.map fun t => (t.2.1, HO.lst (t.2.2.map V.str))
def nmN (nl : NL) : List Str := nl.map (·.1)
def nfN (nl : NL) (n : Str) : List Str := ((nl.find? fun t => decide (t.1 = n)).map fun t => t.2.2).getD []
theorem kvN_len (nl : NL) : (kvN nl).length = nl.length := by simp [kvN]
theorem nmN_len (nl : NL) : (nmN nl).length = nl.length := by simp [nmN]
theorem kvN_none {n : Str} : ∀ {nl : NL}, n ∉ nmN nl → valV (kvN nl) (Sum.inr n) = none
  | [], _ => rfl
  | t :: nl, h => by
    show valV (((Sum.inr t.1 : Key), V.ref t.2.1) :: kvN nl) (Sum.inr n) = none
    rw [valV_neg (fun e => h (by rw [show n = t.1 from (Sum.inr.inj e).symm]; exact List.mem_cons_self))]
    exact kvN_none fun m => h (List.mem_cons_of_mem _ m)
theorem find_N {t : Str × Addr × List Str} : ∀ {nl : NL}, (nmN nl).Nodup → t ∈ nl → valV (kvN nl) (Sum.inr t.1) = some (.ref t.2.1) ∧ nfN nl t.1 = t.2.2
  | [], _, m => nomatch m
  | u :: nl, nd, m => by
    obtain ⟨n1, n2⟩ := List.nodup_cons.mp (show (u.1 :: nmN nl).Nodup from nd)
    rcases List.mem_cons.mp m with rfl | m
    · refine ⟨valV_pos rfl, ?_⟩
      unfold nfN
      rw [List.find?_cons, decide_eq_true rfl]
      rfl
    · have hne : ¬ u.1 = t.1 := fun e => n1 (by rw [e]; exact List.mem_map_of_mem m)
      obtain ⟨i1, i2⟩ := find_N n2 m
      refine ⟨?_, ?_⟩
      · show valV (((Sum.inr u.1 : Key), V.ref u.2.1) :: kvN nl) (Sum.inr t.1) = _
        rw [valV_neg (fun e => hne (Sum.inr.inj e))]
        exact i1
      · rw [← i2]
        unfold nfN
        rw [List.find?_cons, decide_eq_false hne]
theorem nmN_mem {nl : NL} {n : Str} (h : n ∈ nmN nl) : ∃ t ∈ nl, t.1 = n := List.mem_map.mp h
theorem needsN {Kf : PySem.W.Frag} {L : List As} {nl : NL} (nd : (nmN nl).Nodup) (h : Has (Shs (hoN nl)) L) : NeedsAt Kf L (kvN nl) (nfN nl) (nmN nl) := fun n m => by
  obtain ⟨t, ht, rfl⟩ := nmN_mem m
  obtain ⟨e1, e2⟩ := find_N nd ht
  exact ⟨t.2.1, e1, by rw [e2]; exact .m h (List.mem_map_of_mem (f := fun t : Str × Addr × List Str => (t.2.1, HO.lst (t.2.2.map V.str))) ht)⟩
theorem hoN_snoc {nl : NL} {n : Str} {p : Addr} {ys : List Str} {L : List As} : Ent (cell p (.lst (ys.map V.str)) :: Shs (hoN nl) :: L) (Shs (hoN (nl ++ [(n, p, ys)])) :: L) := Ent.shs.trans (Ent.mapHead fun h ⟨a, b⟩ => ⟨a, fun q m => b q (by
  unfold hoN at m
  rw [List.map_append] at m
  rcases List.mem_append.mp m with m | m
  · exact List.mem_cons_of_mem _ m
  · rcases List.mem_cons.mp m with rfl | m
    · exact List.mem_cons_self
    · cases m)⟩)
theorem kvN_snoc {nl : NL} {n : Str} {p : Addr} {ys : List Str} (h : n ∉ nmN nl) : putK (kvN nl) (Sum.inr n) (.ref p) = kvN (nl ++ [(n, p, ys)]) := by
  rw [putK_new _ (kvN_none h)]
  unfold kvN
  rw [List.map_append]
  rfl
theorem nmN_snoc {nl : NL} {n : Str} {p : Addr} {ys : List Str} : nmN (nl ++ [(n, p, ys)]) = nmN nl ++ [n] := by
  unfold nmN
  rw [List.map_append]
  rfl
/-- what is built of the first i words -/
structure BuiltI (ws fs ds : List Str) (nl : NL) (i : Nat) : Prop where
  nm : nmN nl = fs
  sf : fs.Sublist (ws.take i)
  sd : ds.Sublist (ws.take i)
  ap : ∀ x ∈ fs, x ∉ ds
  nw : ∀ t ∈ nl, ∀ y ∈ t.2.2, y ∈ ws
  nz : ∀ t ∈ nl, t.2.2.length ≤ 8
theorem BuiltI.zero {ws : List Str} : BuiltI ws [] [] [] 0 := ⟨rfl, List.nil_sublist _, List.nil_sublist _, fun _ m => (nomatch m), fun _ m => (nomatch m), fun _ m => (nomatch m)⟩
theorem take_snoc {ws : List Str} {i : Nat} {x : Str} (h : ws[i]? = some x) : ws.take (i + 1) = ws.take i ++ [x] := by rw [List.take_succ, h]; rfl
theorem not_take {ws : List Str} (nd : ws.Nodup) {i : Nat} {x : Str} (h : ws[i]? = some x) : x ∉ ws.take i := fun m => by
  have e := take_snoc h
  have n2 : (ws.take (i + 1)).Nodup := List.Sublist.nodup (List.take_sublist _ _) nd
  rw [e] at n2
  exact (List.nodup_append.mp n2).2.2 x m x (List.mem_cons_self) rfl
theorem sub_up {fs ws : List Str} {i : Nat} (h : fs.Sublist (ws.take i)) : fs.Sublist (ws.take (i + 1)) := by
  rw [List.take_succ]
  exact h.trans (List.sublist_append_left _ _)
theorem BuiltI.full {ws fs ds : List Str} {nl : NL} {i : Nat} {x : Str} {p : Addr} {ys : List Str} (h : BuiltI ws fs ds nl i) (nd : ws.Nodup) (hx : ws[i]? = some x) (hy : ys.length ≤ 8) (hm : ∀ y ∈ ys, y ∈ ws) : BuiltI ws (fs ++ [x]) ds (nl ++ [(x, p, ys)]) (i + 1) ∧ x ∉ nmN nl := by
  have n1 := not_take nd hx
  refine ⟨⟨by rw [nmN_snoc, h.nm], by rw [take_snoc hx]; exact h.sf.append (List.Sublist.refl _), sub_up h.sd, fun y m => ?_, fun t m => ?_, fun t m => ?_⟩, by rw [h.nm]; exact fun m => n1 (h.sf.mem m)⟩
  · rcases List.mem_append.mp m with m | m
    · exact h.ap y m
    · rcases List.mem_cons.mp m with rfl | m
      · exact fun m => n1 (h.sd.mem m)
      · cases m
  · rcases List.mem_append.mp m with m | m
    · exact h.nw t m
    · rcases List.mem_cons.mp m with rfl | m
      · exact hm
      · cases m
  · rcases List.mem_append.mp m with m | m
    · exact h.nz t m
    · rcases List.mem_cons.mp m with rfl | m
      · exact hy
      · cases m
theorem BuiltI.done {ws fs ds : List Str} {nl : NL} {i : Nat} {x : Str} (h : BuiltI ws fs ds nl i) (nd : ws.Nodup) (hx : ws[i]? = some x) : BuiltI ws fs (ds ++ [x]) nl (i + 1) := by
  have n1 := not_take nd hx
  refine ⟨h.nm, sub_up h.sf, by rw [take_snoc hx]; exact h.sd.append (List.Sublist.refl _), fun y m m2 => ?_, h.nw, h.nz⟩
  rcases List.mem_append.mp m2 with m2 | m2
  · exact h.ap y m m2
  · rcases List.mem_cons.mp m2 with rfl | m2
    · exact n1 (h.sf.mem m)
    · cases m2
theorem BuiltI.none {ws fs ds : List Str} {nl : NL} {i : Nat} (h : BuiltI ws fs ds nl i) : BuiltI ws fs ds nl (i + 1) := ⟨h.nm, sub_up h.sf, sub_up h.sd, h.ap, h.nw, h.nz⟩
/-- what is built at last -/
structure Built (ws fs ds : List Str) (nl : NL) : Prop where
  wd : ws.Nodup
  ok : ∀ z ∈ ws, okT z
  wz : ws.length ≤ 40
  w0 : ws ≠ []
  nm : nmN nl = fs
  sf : fs.Sublist ws
  sd : ds.Sublist ws
  ap : ∀ x ∈ fs, x ∉ ds
  nw : ∀ t ∈ nl, ∀ y ∈ t.2.2, y ∈ ws
  nz : ∀ t ∈ nl, t.2.2.length ≤ 8
section
variable {ws fs ds : List Str} {nl nl2 : NL}
theorem BuiltI.end {n : Nat} (h : BuiltI ws fs ds nl n) (e : ws.length ≤ n) (wd : ws.Nodup) (ok : ∀ z ∈ ws, okT z) (wz : ws.length ≤ 40) (w0 : ws ≠ []) : Built ws fs ds nl := by
  obtain ⟨a, b, c, d, f, g⟩ := h
  rw [List.take_of_length_le e] at b c
  exact ⟨wd, ok, wz, w0, a, b, c, d, f, g⟩
theorem Built.fd (h : Built ws fs ds nl) : fs.Nodup := List.Sublist.nodup h.sf h.wd
theorem Built.dd (h : Built ws fs ds nl) : ds.Nodup := List.Sublist.nodup h.sd h.wd
theorem Built.nd (h : Built ws fs ds nl) : (nmN nl).Nodup := by rw [h.nm]; exact h.fd
theorem Built.fz (h : Built ws fs ds nl) : fs.length ≤ 40 := Nat.le_trans h.sf.length_le h.wz
theorem Built.dz (h : Built ws fs ds nl) : ds.length ≤ 40 := Nat.le_trans h.sd.length_le h.wz
theorem Built.fk (h : Built ws fs ds nl) : ∀ z ∈ fs, okT z := fun z m => h.ok z (h.sf.mem m)
theorem Built.dk (h : Built ws fs ds nl) : ∀ z ∈ ds, okT z := fun z m => h.ok z (h.sd.mem m)
theorem Built.nk (h : Built ws fs ds nl) : ∀ t ∈ nl, ∀ z ∈ t.2.2, okT z := fun t m z mz => h.ok z (h.nw t m z mz)
theorem Built.nlz (h : Built ws fs ds nl) : nl.length ≤ 40 := by
  have := h.fz
  rw [← h.nm, nmN_len] at this
  exact this
theorem Built.nfw (h : Built ws fs ds nl) {n : Str} (m : n ∈ fs) : ∀ y ∈ nfN nl n, y ∈ ws := by
  rw [← h.nm] at m
  obtain ⟨t, ht, rfl⟩ := nmN_mem m
  rw [(find_N h.nd ht).2]
  exact h.nw t ht
theorem Built.nfz (h : Built ws fs ds nl) {n : Str} (m : n ∈ fs) : (nfN nl n).length ≤ 8 := by
  rw [← h.nm] at m
  obtain ⟨t, ht, rfl⟩ := nmN_mem m
  rw [(find_N h.nd ht).2]
  exact h.nz t ht
theorem Built.needs (h : Built ws fs ds nl) {Kf : PySem.W.Frag} {L : List As} (q : Has (Shs (hoN nl)) L) : NeedsAt Kf L (kvN nl) (nfN nl) fs := by
  have := needsN (Kf := Kf) h.nd q
  rw [h.nm] at this
  exact this
/-- the copy that is handed in -/
structure Copy (nl nl2 : NL) (i : Nat) : Prop where
  nm : nmN nl2 = (nmN nl).take i
  eq : ∀ t ∈ nl2, t.2.2 = nfN nl t.1
theorem Copy.zero : Copy nl [] 0 := ⟨rfl, fun _ m => nomatch m⟩
theorem Copy.snoc {i : Nat} {x : Str} {p : Addr} (h : Copy nl nl2 i) (nd : (nmN nl).Nodup) (hx : (nmN nl)[i]? = some x) : Copy nl (nl2 ++ [(x, p, nfN nl x)]) (i + 1) ∧ x ∉ nmN nl2 := by
  refine ⟨⟨by rw [nmN_snoc, h.nm, take_snoc hx], fun t m => ?_⟩, by rw [h.nm]; exact not_take nd hx⟩
  rcases List.mem_append.mp m with m | m
  · exact h.eq t m
  · rcases List.mem_cons.mp m with rfl | m
    · rfl
    · cases m
theorem Built.copy (h : Built ws fs ds nl) (c : Copy nl nl2 fs.length) : Built ws fs ds nl2 := by
  have e : nmN nl2 = fs := by rw [c.nm, h.nm, List.take_length]
  refine ⟨h.wd, h.ok, h.wz, h.w0, e, h.sf, h.sd, h.ap, fun t m => ?_, fun t m => ?_⟩
  · rw [c.eq t m]
    exact h.nfw (by rw [← e]; exact List.mem_map_of_mem m)
  · rw [c.eq t m]
    exact h.nfz (by rw [← e]; exact List.mem_map_of_mem m)
theorem Copy.nf (c : Copy nl nl2 (nmN nl).length) (nd : (nmN nl).Nodup) {n : Str} (m : n ∈ nmN nl) : nfN nl2 n = nfN nl n := by
  have e : nmN nl2 = nmN nl := by rw [c.nm, List.take_length]
  rw [← e] at m
  obtain ⟨t, ht, rfl⟩ := nmN_mem m
  rw [(find_N (by rw [e]; exact nd) ht).2, c.eq t ht]
/-- the copy is unlike in nothing -/
theorem wr_copy {L : List As} {K : VL} {Kf : PySem.W.Frag} {a b : Addr} (h : Built ws fs ds nl) (c : Copy nl nl2 fs.length) (ha : Has (cell a (.dK (kvN nl2))) L) (hb : Has (cell b (.dK (kvN nl))) L) (sa : Has (Shs (hoN nl2)) L) (sb : Has (Shs (hoN nl)) L) (k : K (.bl false) L) :
    WpR L (rNeDD Kf) (.ref a) (.ref b) K := by
  have h2 := h.copy c
  refine wr_neDD ha hb (by rw [kvN_len, kvN_len, ← nmN_len, ← nmN_len, h.nm, h2.nm]) (fun p m => ?_) k
  obtain ⟨t, ht, rfl⟩ := List.mem_map.mp m
  have mt : t.1 ∈ nmN nl := by rw [h.nm, ← h2.nm]; exact List.mem_map_of_mem ht
  obtain ⟨u, hu, eu⟩ := nmN_mem mt
  obtain ⟨e1, e2⟩ := find_N h.nd hu
  refine ⟨.ref u.2.1, dS t.2.2, by rw [← eu]; exact e1, dpl_strs (.m sa (List.mem_map_of_mem (f := fun t : Str × Addr × List Str => (t.2.1, HO.lst (t.2.2.map V.str))) ht)), ?_, (okD.strs (h2.nk t ht)).shaped (by decide)⟩
  rw [c.eq t ht, ← eu, e2]
  exact dpl_strs (.m sb (List.mem_map_of_mem (f := fun t : Str × Addr × List Str => (t.2.1, HO.lst (t.2.2.map V.str))) hu))
end
/-- two lists of the same texts are not unequal -/
theorem wr_neSame {L : List As} {K : VL} {Kf : PySem.W.Frag} {a b : Addr} {xs : List Str} (ha : HasL Kf L a (xs.map V.str)) (hb : HasL Kf L b (xs.map V.str)) (h : ∀ x ∈ xs, okT x) (k : K (.bl false) L) : WpR L (rNeD Kf) (.ref a) (.ref b) K :=
  wr_neD (dpl_strs ha) (dpl_strs hb) ((okD.strs h).shaped (by decide)) ((okD.strs h).shaped (by decide)) (by rw [eqv_same (okD.strs h)]; exact k)
theorem wr_eqStrs {L : List As} {K : VL} {Kf : PySem.W.Frag} {a b : Addr} {xs ys : List Str} (ha : HasL Kf L a (xs.map V.str)) (hb : HasL Kf L b (ys.map V.str)) (h : ∀ x ∈ xs, okT x) (h' : ∀ x ∈ ys, okT x) (k : K (.bl (decide (xs = ys))) L) : WpR L (rEqD Kf) (.ref a) (.ref b) K :=
  wr_eqD (dpl_strs ha) (dpl_strs hb) ((okD.strs h).shaped (by decide)) ((okD.strs h').shaped (by decide)) (by rw [eqv_strs]; exact k)
theorem wr_neStrs {L : List As} {K : VL} {Kf : PySem.W.Frag} {a b : Addr} {xs ys : List Str} (ha : HasL Kf L a (xs.map V.str)) (hb : HasL Kf L b (ys.map V.str)) (h : ∀ x ∈ xs, okT x) (h' : ∀ x ∈ ys, okT x) (k : K (.bl (!decide (xs = ys))) L) : WpR L (rNeD Kf) (.ref a) (.ref b) K :=
  wr_neD (dpl_strs ha) (dpl_strs hb) ((okD.strs h).shaped (by decide)) ((okD.strs h').shaped (by decide)) (by rw [eqv_strs]; exact k)
theorem cut_from (xs : List V) {i : Nat} (h : i ≤ xs.length) : cutV xs (some (i : Int)) none = xs.drop i := by
  unfold cutV
  rw [HT.sIx_none, HT.sIx_nat, Nat.min_eq_left h, List.take_of_length_le (by rw [List.length_drop]; omega)]
theorem sub_next {l : List Str} {x : Str} : ∀ {m : List Str} {j : Nat}, (x :: l).Sublist m → m.Nodup → m[j]? = some x → l.Sublist (m.drop (j + 1))
  | [], _, h, _, _ => nomatch h
  | y :: m, j, h, nd, e => by
    obtain ⟨n1, n2⟩ := List.nodup_cons.mp nd
    cases h with
    | cons _ h =>
      cases j with
      | zero =>
        have e : y = x := Option.some.inj e
        exact absurd (h.mem List.mem_cons_self) (e ▸ n1)
      | succ j => exact sub_next (m := m) (j := j) h n2 (show m[j]? = some x from e)
    | cons_cons _ h =>
      cases j with
      | zero => exact h
      | succ j => exact absurd (List.mem_of_getElem? (show m[j]? = some x from e)) n1
theorem wm_indexS {L : List As} {K : VL} {Kf : PySem.W.Frag} {a : Addr} {xs : List Str} {x : Str} (h : HasL Kf L a (xs.map V.str)) (nd : xs.Nodup) (m : x ∈ xs) (k : ∀ j : Nat, xs[j]? = some x → K (.int (j : Nat)) L) : WpM L (rIndex Kf) (.ref a) [.str x] K := fun H Q s q => by
  obtain ⟨j, hj, e⟩ := List.getElem_of_mem m
  have ej : xs[j]? = some x := by rw [List.getElem?_eq_getElem hj, e]
  refine ⟨a, _, .str x, j, .str x, rfl, rfl, h.sq s, rfl, flat_strs xs, by rw [List.getElem?_map, ej]; rfl, by show (x == x) = true; simp, fun i z' hi hz => ?_, q _ _ _ (k j ej) s⟩
  obtain ⟨z, ez, rfl⟩ := map_str_at hz
  show (z == x) = false
  rw [beq_eq_false_iff_ne]
  intro e2
  rw [e2] at ez
  have h1 : i < xs.length := by omega
  rw [List.getElem?_eq_getElem h1] at ez
  have := (List.getElem_inj (h₀ := h1) (h₁ := hj) nd).mp (by rw [Option.some.inj ez, e])
  omega
end Q
namespace Q
open PySem PySem.Spec L2
theorem u66 {k : Nat} {A : Around} (r : Room k A) : A.units + 66 < cLine := by have := r.un; omega
theorem u65 {k : Nat} {A : Around} (r : Room k A) : A.units + 65 < cLine := by have := r.un; omega
end Q
namespace Q
open PySem PySem.Spec L2
theorem Copy.nf' {fs : List Str} {nl nl2 : NL} (c : Copy nl nl2 fs.length) (nd : (nmN nl).Nodup) (e : nmN nl = fs) {n : Str} (m : n ∈ fs) : nfN nl2 n = nfN nl n := by
  subst e
  exact c.nf nd m
end Q

namespace Q
open PySem PySem.Spec L2 PyProof.Rows
/-! ### slices with a step, of lists -/
section
variable {X : Cx}
theorem vals_pick {xs : List V} {its : List Value} (r : Vals xs its) : ∀ (l : List Nat), Vals (l.filterMap (xs[·]?)) (l.filterMap (its[·]?))
  | [] => .nil
  | i :: l => by
    have ih := vals_pick r l
    have e : xs.length = its.length := r.length
    rcases Nat.lt_or_ge i xs.length with h | h
    · have h2 : i < its.length := by omega
      obtain ⟨u, hu, ru⟩ := r.get (List.getElem?_eq_getElem h)
      rw [List.filterMap_cons, List.filterMap_cons, List.getElem?_eq_getElem h, hu]
      exact .cons ru ih
    · rw [List.filterMap_cons, List.filterMap_cons, List.getElem?_eq_none h, List.getElem?_eq_none (by omega)]
      exact ih
def rSl3 (K : PySem.W.Frag) : V → Option Int → Option Int → Option Int → Hp → VK → Prop := fun x _ _ st H Q => ∃ a xs, x = .ref a ∧ SqL K H a xs ∧ st ≠ some 0 ∧ ∀ ys p, H p = none → (∀ y ∈ ys, y ∈ xs) → ys.length ≤ xs.length → Q (.ref p) (upd H p (.lst ys))
def tSl3 (r : V → Option Int → Option Int → Option Int → Hp → VK → Prop) (te : TE) (tl th ts : TO) : TE := fun σ H Q => te σ H fun x H1 => tl σ H1 fun l H2 => th σ H2 fun u H3 => ts σ H3 fun st H4 => r x l u st H4 Q
theorem pe_slice3 {e st : Expr} {lo hi : Option Expr} {p2 pos : Pos} {te : TE} {tl th ts : TO} (he : PE X e te) (hl : PO X lo tl) (hu : PO X hi th) (hs : PO X (some st) ts) : PE X (.Subscript e (.Slice lo hi (some st) p2) pos) (tSl3 (rSl3 X.K) te tl th ts) := by
  refine ⟨fun pins s σ H Q I h => ?_⟩
  refine Subscript_ (thn (he.run pins s σ H _ I h) fun v s1 ⟨x, H1, I1, r1, q1⟩ => ?_)
  refine wpAny_Slice (thn (hl.run pins s1 σ H1 _ I1 q1) fun vl s2 ⟨l, H2, I2, pl, q2⟩ => thn (hu.run pins s2 σ H2 _ I2 q2) fun vu s3 ⟨u, H3, I3, pu, q3⟩ => thn (hs.run pins s3 σ H3 _ I3 q3) fun vk s4 ⟨k, H4, I4, pk, q4⟩ => ?_)
  have I5 : Inv X pins σ H4 { s4 with heap := s4.heap.push { cls := .type "slice", data := .fields #[vl, vu, vk] } } := I4.kept (t' := s4.toks) fun b ob q => Heap.get?_push_of_some _ q
  obtain ⟨a, xs, rfl, hx, hk, q⟩ := q4
  cases r1
  obtain ⟨its, r, ht, hz⟩ := I5.list hx
  have hlen : xs.length = its.length := r.length
  have hg : wpAny (model X.prog X.w) X.A (getItem (.ref a) (.ref s4.heap.objs.size)) (EP X pins σ Q) X.xe { s4 with heap := s4.heap.push { cls := .type "slice", data := .fields #[vl, vu, vk] } } := by
    refine wpAny_getItem_list_slice ht.isList (Heap.IsSliceOf.new ..) pl pu pk hk ?_ (by rw [List.size_toArray]; omega)
    have e : ∃ idx : List Nat, slicePick its.toArray l u k = (idx.filterMap (its[·]?)).toArray := ⟨_, by
      unfold slicePick
      congr 1
      exact congrArg (fun f => List.filterMap f _) (funext fun i => by simp)⟩
    obtain ⟨idx, e⟩ := e
    have hsz := slicePick_size_le its.toArray l u k
    rw [e] at hsz
    rw [e]
    have rr := vals_pick r idx
    have hl2 : (idx.filterMap (xs[·]?)).length = (idx.filterMap (its[·]?)).length := rr.length
    rw [List.size_toArray, List.size_toArray] at hsz
    refine ⟨.ref _, _, I5.laid (t' := s4.toks) (o := .lst (idx.filterMap (xs[·]?))) (fun b ob q => Heap.get?_push_of_some _ q) (Nat.le_refl _) ?_, rfl, q _ _ (I5.hok.fresh (Nat.le_refl _)) (fun y m => ?_) (by omega)⟩
    · exact ⟨by omega, _, 0, rr, Heap.get?_push_size _ rfl⟩
    · obtain ⟨i, _, hi⟩ := List.mem_filterMap.mp m
      exact List.mem_of_getElem? hi
  exact tail_any (ops := [.ref a, .ref s4.heap.objs.size]) ht.isList.typeIs slot_list_getitem.lookup hg (by with_unfolding_all rfl)
end
section
variable {L : List As} {σ : L2.St} {K : VL} {Kf : PySem.W.Frag} {ta : TE}
theorem wpe_sl3 {to tu ts : TO} (h : WpE L σ ta fun x L1 => WpO L1 σ to fun l L2 => WpO L2 σ tu fun u L3 => WpO L3 σ ts fun st L4 => ∃ a xs, x = .ref a ∧ HasL Kf L4 a xs ∧ st ≠ some 0 ∧ ∀ ys p, (∀ y ∈ ys, y ∈ xs) → ys.length ≤ xs.length → K (.ref p) (cell p (.lst ys) :: L4)) : WpE L σ (tSl3 (rSl3 Kf) ta to tu ts) K := fun H Q s q =>
  h H _ s fun x L1 H1 k1 s1 => k1 H1 _ s1 fun l L2 H2 k2 s2 => k2 H2 _ s2 fun u L3 H3 k3 s3 => k3 H3 _ s3 fun st L4 H4 ⟨a, xs, e, hl, h0, k⟩ s4 => ⟨a, xs, e, hl.sq s4, h0, fun ys p hp hm hz => q _ _ _ (k ys p hm hz) (s4.new hp)⟩
end
/-! ### dicts of amounts -/
abbrev AL := List (Str × Int)
def kvI (l : AL) : List (Key × V) := l.map fun t => ((Sum.inr t.1 : Key), V.int t.2)
def getI (l : AL) (z : Str) : Option Int := (l.find? fun t => decide (t.1 = z)).map (·.2)
def putI (l : AL) (z : Str) (v : Int) : AL := if (getI l z).isSome = true then l.map fun t => if t.1 = z then (t.1, v) else t else l ++ [(z, v)]
def keysI (l : AL) : List Str := l.map (·.1)
theorem kvI_len (l : AL) : (kvI l).length = l.length := by simp [kvI]
theorem kvI_val (z : Str) : ∀ l : AL, valV (kvI l) (Sum.inr z) = (getI l z).map V.int
  | [] => rfl
  | t :: l => by
    show valV (((Sum.inr t.1 : Key), V.int t.2) :: kvI l) (Sum.inr z) = _
    unfold getI
    rw [List.find?_cons]
    by_cases e : t.1 = z
    · rw [valV_pos (by rw [e]), decide_eq_true e]
      rfl
    · rw [valV_neg (fun h => e (Sum.inr.inj h)), decide_eq_false e]
      exact kvI_val z l
theorem kvI_put (l : AL) (z : Str) (v : Int) : putK (kvI l) (Sum.inr z) (.int v) = kvI (putI l z v) := by
  unfold putI
  cases e : getI l z with
  | none =>
    rw [putK_new _ (by rw [kvI_val, e]; rfl), if_neg (by simp)]
    unfold kvI
    rw [List.map_append]
    rfl
  | some u =>
    rw [if_pos (show (some u).isSome = true from rfl)]
    unfold putK
    rw [valV_any, kvI_val, e, if_pos (show (Option.map V.int (some u)).isSome = true from rfl)]
    unfold kvI
    rw [List.map_map, List.map_map]
    refine List.map_congr_left fun t _ => ?_
    show (if (Sum.inr t.1 : Key) = Sum.inr z then ((Sum.inr t.1 : Key), V.int v) else ((Sum.inr t.1 : Key), V.int t.2)) = ((Sum.inr (if t.1 = z then (t.1, v) else t).1 : Key), V.int (if t.1 = z then (t.1, v) else t).2)
    by_cases e2 : t.1 = z
    · rw [if_pos e2, if_pos (by rw [e2])]
    · rw [if_neg e2, if_neg (fun h => e2 (Sum.inr.inj h))]
theorem putI_len (l : AL) (z : Str) (v : Int) : (putI l z v).length ≤ l.length + 1 := by
  unfold putI
  split
  · rw [List.length_map]; omega
  · rw [List.length_append]; exact Nat.le_refl _
theorem getI_put (l : AL) (z x : Str) (v : Int) : getI (putI l z v) x = if x = z then some v else getI l x := by
  have h := valV_put (kvI l) (Sum.inr z) (Sum.inr x) (V.int v)
  rw [kvI_put, kvI_val, kvI_val] at h
  by_cases e : x = z
  · rw [if_pos e]
    rw [if_pos (by rw [e])] at h
    cases c : getI (putI l z v) x with
    | none => rw [c] at h; cases h
    | some u => rw [c] at h; cases h; rfl
  · rw [if_neg e]
    rw [if_neg (fun h => e (Sum.inr.inj h))] at h
    cases c : getI (putI l z v) x <;> cases d : getI l x <;> rw [c, d] at h <;> first | rfl | (cases h; rfl) | cases h
theorem keysI_put {l : AL} {z : Str} (v : Int) (h : (getI l z).isSome = true) : keysI (putI l z v) = keysI l := by
  unfold putI keysI
  rw [if_pos h, List.map_map]
  refine List.map_congr_left fun t _ => ?_
  show (if t.1 = z then (t.1, v) else t).1 = t.1
  split <;> rfl
theorem keysI_new {l : AL} {z : Str} (v : Int) (h : getI l z = none) : keysI (putI l z v) = keysI l ++ [z] := by
  unfold putI keysI
  rw [if_neg (by rw [h]; simp), List.map_append]
  rfl
theorem kvI_keys (l : AL) : (kvI l).map (fun kv => kV kv.1) = (keysI l).map V.str := by
  unfold kvI keysI
  rw [List.map_map, List.map_map]
  rfl
theorem getI_mem {l : AL} {z : Str} : (getI l z).isSome = decide (z ∈ keysI l) := by
  unfold getI keysI
  rw [Option.isSome_map, Bool.eq_iff_iff, decide_eq_true_iff, List.find?_isSome, List.mem_map]
  constructor
  · rintro ⟨t, m, e⟩
    exact ⟨t, m, of_decide_eq_true e⟩
  · rintro ⟨t, m, e⟩
    exact ⟨t, m, decide_eq_true e⟩
/-! ### the book's fields -/
def bF (d : Int) (pf pa pp : Addr) : List (Str × V) := [("day", .int d), ("free", .ref pf), ("aside", .ref pa), ("pacts", .ref pp)]
theorem bF_none {d : Int} {pf pa pp : Addr} {m : Str} (h : m ∉ (["day", "free", "aside", "pacts"] : List Str)) : (bF d pf pa pp).lookup m = none := by
  simp only [List.mem_cons, List.not_mem_nil, or_false, not_or] at h
  unfold bF
  simp only [List.lookup_cons, List.lookup_nil, beq_eq_false_iff_ne.mpr h.1, beq_eq_false_iff_ne.mpr h.2.1, beq_eq_false_iff_ne.mpr h.2.2.1, beq_eq_false_iff_ne.mpr h.2.2.2]
/-- a purse that is there -/
def isPu (l : AL) : V → Bool
  | .str z => (getI l z).isSome
  | _ => false
theorem isPu_some {l : AL} {x : V} (h : isPu l x = true) : ∃ z v, x = .str z ∧ getI l z = some v := by
  cases x with
  | str z =>
    obtain ⟨v, hv⟩ := Option.isSome_iff_exists.mp (show (getI l z).isSome = true from h)
    exact ⟨z, v, rfl, hv⟩
  | _ => cases h
structure HasB (Kf : PySem.W.Frag) (L : List As) (b : Addr) (d : Int) (pf pa pp : Addr) : Prop where
  i : ∃ dx, Has (cell b (.ins (He.ga Kf "Book") dx (bF d pf pa pp))) L
theorem HasB.there {Kf : PySem.W.Frag} {A : As} {L : List As} {b : Addr} {d : Int} {pf pa pp : Addr} (h : HasB Kf L b d pf pa pp) : HasB Kf (A :: L) b d pf pa pp := by
  obtain ⟨dx, h⟩ := h.i
  exact ⟨dx, .there h⟩
theorem HasB.is {Kf : PySem.W.Frag} {L : List As} {b : Addr} {d : Int} {pf pa pp : Addr} (h : HasB Kf L b d pf pa pp) (m : Str) (hm : m ∉ (["day", "free", "aside", "pacts"] : List Str) := by decide +kernel) : IsI L b (He.ga Kf "Book") m := fun H s => by
  obtain ⟨dx, h⟩ := h.i
  exact ⟨dx, _, s.has h, bF_none hm⟩
section
variable {L : List As} {σ : L2.St} {K : VL} {Kf : PySem.W.Frag} {ta : TE}
/-- a field of a book read -/
theorem wpe_bf {f : Str} {b : Addr} {d : Int} {pf pa pp : Addr} (h : HasB Kf L b d pf pa pp) (c : Cls Kf (He.ga Kf "Book")) (na : NoAttr Kf (He.ga Kf "Book") f) {i : Nat} (hv : σ[i]? = some (some (.ref b))) {v : V} (hf : (bF d pf pa pp).lookup f = some v) (k : K v L) : WpE L σ (tFld Kf (tVar i) f) K := by
  obtain ⟨dx, h⟩ := h.i
  exact wpe_fld (wpe_var hv ⟨b, _, dx, _, v, rfl, h, c, na, hf, k⟩)
end
/-! ### what the book's methods promise, over cells -/
def B_binit (Kf : PySem.W.Frag) : Bd := fun vs L K _ => ∃ (b dx : Addr) (L0 : List As), vs = [.ref b] ∧ L = cell b (.ins (He.ga Kf "Book") dx []) :: L0 ∧ ∀ pf pa pp, K .non (cell pp (.dK []) :: cell pa (.dK []) :: cell pf (.dK []) :: cell b (.ins (He.ga Kf "Book") dx (bF 0 pf pa pp)) :: L0)
def B_needp (Kf : PySem.W.Frag) : Bd := fun vs L K KE => ∃ (b : Addr) (x : V) (t : String) (d : Int) (pf pa pp : Addr) (l : AL), vs = [.ref b, x] ∧ HasB Kf L b d pf pa pp ∧ HasD L pf (kvI l) ∧ Ty L x t ∧ (isPu l x = true → K .non L) ∧ (isPu l x = false → KE (.ref (He.ga Kf "NoPurse")) none L)
def B_open (Kf : PySem.W.Frag) : Bd := fun vs L K KE => ∃ (b : Addr) (x : V) (t : String) (d : Int) (pf pa pp : Addr) (l m : AL), vs = [.ref b, x] ∧ HasB Kf L b d pf pa pp ∧ Has (cell pf (.dK (kvI l))) L ∧ Has (cell pa (.dK (kvI m))) L ∧ l.length ≤ 10000 ∧ m.length ≤ 10000 ∧ Ty L x t ∧ okS x ∧
  (isName x = false → KE (.ref (He.ga Kf "NoName")) none L) ∧ (isName x = true → isPu l x = true → KE (.ref (He.ga Kf "Taken")) none L) ∧
  (∀ z, x = .str z → nameS z = true → getI l z = none → ∃ L1 L2, Upd (cell pf (.dK (kvI l))) (cell pf (.dK (kvI (putI l z 0)))) L L1 ∧ Upd (cell pa (.dK (kvI m))) (cell pa (.dK (kvI (putI m z 0)))) L1 L2 ∧ HasB Kf L1 b d pf pa pp ∧ K .non L2)
def B_put (Kf : PySem.W.Frag) : Bd := fun vs L K KE => ∃ (b : Addr) (x y : V) (t u : String) (d : Int) (pf pa pp : Addr) (l : AL), vs = [.ref b, x, y] ∧ HasB Kf L b d pf pa pp ∧ Has (cell pf (.dK (kvI l))) L ∧ l.length ≤ 10000 ∧ Ty L x t ∧ Ty L y u ∧
  (isPu l x = false → KE (.ref (He.ga Kf "NoPurse")) none L) ∧ (isPu l x = true → amt y = false → KE (.ref (He.ga Kf "NoAmount")) none L) ∧
  (∀ z v n, x = .str z → getI l z = some v → y = .int n → amt y = true → ∃ L1, Upd (cell pf (.dK (kvI l))) (cell pf (.dK (kvI (putI l z (v + n))))) L L1 ∧ K .non L1)
def B_take (Kf : PySem.W.Frag) : Bd := fun vs L K KE => ∃ (b : Addr) (x y : V) (t u : String) (d : Int) (pf pa pp : Addr) (l : AL), vs = [.ref b, x, y] ∧ HasB Kf L b d pf pa pp ∧ Has (cell pf (.dK (kvI l))) L ∧ l.length ≤ 10000 ∧ Ty L x t ∧ Ty L y u ∧
  (isPu l x = false → KE (.ref (He.ga Kf "NoPurse")) none L) ∧ (isPu l x = true → amt y = false → KE (.ref (He.ga Kf "NoAmount")) none L) ∧
  (∀ z v n, x = .str z → getI l z = some v → y = .int n → amt y = true → n > v → KE (.ref (He.ga Kf "TooLittle")) none L) ∧
  (∀ z v n, x = .str z → getI l z = some v → y = .int n → amt y = true → ¬ n > v → ∃ L1, Upd (cell pf (.dK (kvI l))) (cell pf (.dK (kvI (putI l z (v - n))))) L L1 ∧ K .non L1)
def B_freeof (Kf : PySem.W.Frag) : Bd := fun vs L K KE => ∃ (b : Addr) (x : V) (t : String) (d : Int) (pf pa pp : Addr) (l : AL), vs = [.ref b, x] ∧ HasB Kf L b d pf pa pp ∧ HasD L pf (kvI l) ∧ Ty L x t ∧ (isPu l x = false → KE (.ref (He.ga Kf "NoPurse")) none L) ∧ (∀ z v, x = .str z → getI l z = some v → K (.int v) L)
def B_asideof (Kf : PySem.W.Frag) : Bd := fun vs L K KE => ∃ (b : Addr) (x : V) (t : String) (d : Int) (pf pa pp : Addr) (l m : AL), vs = [.ref b, x] ∧ HasB Kf L b d pf pa pp ∧ HasD L pf (kvI l) ∧ HasD L pa (kvI m) ∧ Ty L x t ∧ (isPu l x = false → KE (.ref (He.ga Kf "NoPurse")) none L) ∧
  (∀ z, x = .str z → isPu l x = true → ∃ v, getI m z = some v ∧ K (.int v) L)
def B_purses (Kf : PySem.W.Frag) : Bd := fun vs L K _ => ∃ (b : Addr) (d : Int) (pf pa pp : Addr) (l : AL), vs = [.ref b] ∧ HasB Kf L b d pf pa pp ∧ Has (cell pf (.dK (kvI l))) L ∧ ∀ p, K (.ref p) (cell p (.lst ((keysI l).map V.str)) :: L)
def B_told (Kf : PySem.W.Frag) : Bd := fun vs L K _ => ∃ (b : Addr) (d : Int) (pf pa pp : Addr) (kvs : List (Key × V)), vs = [.ref b] ∧ HasB Kf L b d pf pa pp ∧ Has (cell pp (.dK kvs)) L ∧ ∀ p, K (.ref p) (cell p (.lst (kvs.map fun kv => kV kv.1)) :: L)
end Q

namespace Q
open PySem PySem.Spec L2 PyProof.Rows
theorem Ty.there {A : As} {L : List As} {x : V} {t : String} (h : Ty L x t) : Ty (A :: L) x t := by
  cases h with
  | int i => exact .int i
  | bl b => exact .bl b
  | non => exact .non
  | str z => exact .str z
  | lst h => exact .lst h.there
  | tup h => exact .tup h.there
theorem Upd.same {A : As} {L L' : List As} (u : Upd A A L L') : L' = L := by
  generalize e : A = B at u
  revert e
  induction u with
  | here => intro e; rw [← e]
  | there _ ih => intro e; rw [ih e]
/-! ### a book with purses alone -/
def zerI (l : AL) : AL := l.map fun t => (t.1, 0)
theorem zerI_len (l : AL) : (zerI l).length = l.length := by simp [zerI]
theorem getI_zer (z : Str) : ∀ l : AL, getI (zerI l) z = (getI l z).map fun _ => 0
  | [] => rfl
  | t :: l => by
    have ih := getI_zer z l
    unfold getI at ih ⊢
    show (List.find? (fun t : Str × Int => decide (t.1 = z)) ((t.1, 0) :: zerI l)).map (·.2) = _
    rw [List.find?_cons, List.find?_cons]
    by_cases e : t.1 = z
    · rw [decide_eq_true e]
      rfl
    · rw [decide_eq_false e]
      exact ih
theorem zer_some {l : AL} {z : Str} {v : Int} (h : (getI l z).isSome = true) : zerI (putI l z v) = zerI l := by
  unfold putI zerI
  rw [if_pos h, List.map_map]
  refine List.map_congr_left fun t _ => ?_
  show ((if t.1 = z then (t.1, v) else t).1, (0 : Int)) = (t.1, 0)
  split <;> rfl
theorem zer_none {l : AL} {z : Str} {v : Int} (h : getI l z = none) : putI (zerI l) z 0 = zerI (putI l z v) := by
  unfold putI
  rw [getI_zer, h, if_neg (by simp), if_neg (by simp)]
  unfold zerI
  rw [List.map_append]
  rfl
def purA (Kf : PySem.W.Frag) (b : Addr) (l : AL) : As := Exs fun q : Addr × Addr × Addr × Addr => Bun [cell b (.ins (He.ga Kf "Book") q.1 (bF 0 q.2.1 q.2.2.1 q.2.2.2)), cell q.2.1 (.dK (kvI l)), cell q.2.2.1 (.dK (kvI (zerI l))), cell q.2.2.2 (.dK [])]
theorem purA_mk {Kf : PySem.W.Frag} {b dx pf pa pp : Addr} {l : AL} {F : List As} : Ent (cell b (.ins (He.ga Kf "Book") dx (bF 0 pf pa pp)) :: cell pf (.dK (kvI l)) :: cell pa (.dK (kvI (zerI l))) :: cell pp (.dK []) :: F) (purA Kf b l :: F) :=
  Ent.trans (Ent.bun (L := [_, _, _, _])) (Ent.exs (f := fun q : Addr × Addr × Addr × Addr => Bun [cell b (.ins (He.ga Kf "Book") q.1 (bF 0 q.2.1 q.2.2.1 q.2.2.2)), cell q.2.1 (.dK (kvI l)), cell q.2.2.1 (.dK (kvI (zerI l))), cell q.2.2.2 (.dK [])]) (dx, pf, pa, pp))
theorem wps_purA {Kf : PySem.W.Frag} {b : Addr} {l : AL} {F : List As} {σ : L2.St} {t : TS} {nx bk ct : SL} {rt : VL} (h : ∀ dx pf pa pp, WpS (cell b (.ins (He.ga Kf "Book") dx (bF 0 pf pa pp)) :: cell pf (.dK (kvI l)) :: cell pa (.dK (kvI (zerI l))) :: cell pp (.dK []) :: F) σ t nx rt bk ct) : WpS (purA Kf b l :: F) σ t nx rt bk ct :=
  wps_exs fun q => wps_ent (Ent.unbun (L := [_, _, _, _])) (h q.1 q.2.1 q.2.2.1 q.2.2.2)
/-- what becomes of a deed -/
def dueM (l : AL) (way : Int) (x y : V) : V × AL :=
  if way = 0 then
    if isName x = true then if isPu l x = true then (.str "Taken", l) else (.non, match x with | .str z => putI l z 0 | _ => l)
    else (.str "NoName", l)
  else if isPu l x = true then
    if amt y = true then
      match x, y with
      | .str z, .int n => if way = 2 ∧ n > (getI l z).getD 0 then (.str "TooLittle", l) else (.non, putI l z ((getI l z).getD 0 + n * (3 - 2 * way)))
      | _, _ => (.non, l)
    else (.str "NoAmount", l)
  else (.str "NoPurse", l)
theorem dueM_scal (l : AL) (way : Int) (x y : V) : scal (dueM l way x y).1 (dueM l way x y).1 = true := by
  unfold dueM
  split
  · split
    · split <;> rfl
    · rfl
  · split
    · split
      · split
        · split <;> rfl
        · rfl
      · rfl
    · rfl
section
variable {l : AL} {way : Int} {x y : V} {z : Str} {n v : Int}
theorem due_noname (h0 : way = 0) (h : isName x = false) : dueM l way x y = (.str "NoName", l) := by
  unfold dueM; rw [if_pos h0, if_neg (by rw [h]; decide)]
theorem due_taken (h0 : way = 0) (h : isName x = true) (h2 : isPu l x = true) : dueM l way x y = (.str "Taken", l) := by
  unfold dueM; rw [if_pos h0, if_pos h, if_pos h2]
theorem due_open (h0 : way = 0) (h : nameS z = true) (h2 : getI l z = none) : dueM l way (.str z) y = (.non, putI l z 0) := by
  unfold dueM; rw [if_pos h0, if_pos (show isName (.str z) = true from h), if_neg (show ¬ isPu l (.str z) = true by show ¬ (getI l z).isSome = true; rw [h2]; simp)]
theorem due_nopurse (h0 : way ≠ 0) (h : isPu l x = false) : dueM l way x y = (.str "NoPurse", l) := by
  unfold dueM; rw [if_neg h0, if_neg (by rw [h]; decide)]
theorem due_noamount (h0 : way ≠ 0) (h : isPu l x = true) (h2 : amt y = false) : dueM l way x y = (.str "NoAmount", l) := by
  unfold dueM; rw [if_neg h0, if_pos h, if_neg (by rw [h2]; decide)]
theorem due_little (h0 : way = 2) (h : getI l z = some v) (h2 : amt (.int n) = true) (h3 : n > v) : dueM l way (.str z) (.int n) = (.str "TooLittle", l) := by
  unfold dueM
  rw [if_neg (by omega), if_pos (show isPu l (.str z) = true by show (getI l z).isSome = true; rw [h]; rfl), if_pos h2]
  show (if way = 2 ∧ n > (getI l z).getD 0 then _ else _) = _
  rw [h, if_pos ⟨h0, h3⟩]
theorem due_move (h0 : way ≠ 0) (h : getI l z = some v) (h2 : amt (.int n) = true) (h3 : ¬ (way = 2 ∧ n > v)) : dueM l way (.str z) (.int n) = (.non, putI l z (v + n * (3 - 2 * way))) := by
  unfold dueM
  rw [if_neg h0, if_pos (show isPu l (.str z) = true by show (getI l z).isSome = true; rw [h]; rfl), if_pos h2]
  show (if way = 2 ∧ n > (getI l z).getD 0 then _ else _) = _
  rw [h, if_neg (show ¬ (way = 2 ∧ n > (some v).getD 0) from h3)]
  rfl
theorem due_len : (dueM l way x y).2.length ≤ l.length + 1 := by
  unfold dueM
  split
  · split
    · split
      · show l.length ≤ _; omega
      · show (match x with | .str z => putI l z 0 | _ => l).length ≤ _
        cases x with
        | str z => exact putI_len _ _ _
        | _ => show l.length ≤ _; omega
    · show l.length ≤ _; omega
  · split
    · split
      · split
        · split
          · show l.length ≤ _; omega
          · exact putI_len _ _ _
        · show l.length ≤ _; omega
      · show l.length ≤ _; omega
    · show l.length ≤ _; omega
end
def B_told7 (Kf : PySem.W.Frag) : Bd := fun vs L K _ => ∃ (b : Addr) (way : Int) (x y : V) (t u : String) (l : AL) (F : List As), vs = [.ref b, .int way, x, y] ∧ L = purA Kf b l :: F ∧ (way = 0 ∨ way = 1 ∨ way = 2) ∧ l.length ≤ 1000 ∧ Ty F x t ∧ okS x ∧ Ty F y u ∧ K (dueM l way x y).1 (purA Kf b (dueM l way x y).2 :: F)
def B_due7 : Bd := fun vs L K _ => ∃ (d : Addr) (way : Int) (x y : V) (t u : String) (l : AL) (F : List As), vs = [.ref d, .int way, x, y] ∧ L = cell d (.dK (kvI l)) :: F ∧ (way = 0 ∨ way = 1 ∨ way = 2) ∧ l.length ≤ 1000 ∧ Ty F x t ∧ okS x ∧ Ty F y u ∧ K (dueM l way x y).1 (cell d (.dK (kvI (dueM l way x y).2)) :: F)
end Q

namespace Q
open PySem PySem.Spec L2 PyProof.Rows
/-! ### pairs of lists that are held -/
abbrev HE4 := List (Addr × Addr × Addr × List Str)
def hdV (hs : HE4) : List V := hs.map fun t => V.ref t.1
def hdO : HE4 → List (Addr × HO)
  | [] => []
  | (t, p, q, xs) :: r => (t, .tup [.ref p, .ref q]) :: (p, .lst (xs.map V.str)) :: (q, .lst (xs.map V.str)) :: hdO r
theorem hdO_mem : ∀ {hs : HE4} {t p q : Addr} {xs : List Str}, (t, p, q, xs) ∈ hs → (t, HO.tup [.ref p, .ref q]) ∈ hdO hs ∧ (p, HO.lst (xs.map V.str)) ∈ hdO hs ∧ (q, HO.lst (xs.map V.str)) ∈ hdO hs
  | (t', p', q', xs') :: r, t, p, q, xs, m => by
    rcases List.mem_cons.mp m with e | m
    · cases e
      exact ⟨List.mem_cons_self, List.mem_cons_of_mem _ List.mem_cons_self, List.mem_cons_of_mem _ (List.mem_cons_of_mem _ List.mem_cons_self)⟩
    · obtain ⟨a, b, c⟩ := hdO_mem m
      exact ⟨List.mem_cons_of_mem _ (List.mem_cons_of_mem _ (List.mem_cons_of_mem _ a)), List.mem_cons_of_mem _ (List.mem_cons_of_mem _ (List.mem_cons_of_mem _ b)), List.mem_cons_of_mem _ (List.mem_cons_of_mem _ (List.mem_cons_of_mem _ c))⟩
theorem hdO_snoc {t p q : Addr} {xs : List Str} : ∀ {hs : HE4} {y : Addr × HO}, y ∈ hdO (hs ++ [(t, p, q, xs)]) → y ∈ (t, HO.tup [.ref p, .ref q]) :: (p, HO.lst (xs.map V.str)) :: (q, HO.lst (xs.map V.str)) :: hdO hs
  | [], y, m => m
  | (t', p', q', xs') :: r, y, m => by
    have m : y ∈ (t', HO.tup [.ref p', .ref q']) :: (p', HO.lst (xs'.map V.str)) :: (q', HO.lst (xs'.map V.str)) :: hdO (r ++ [(t, p, q, xs)]) := m
    show y ∈ (t, HO.tup [.ref p, .ref q]) :: (p, HO.lst (xs.map V.str)) :: (q, HO.lst (xs.map V.str)) :: (t', HO.tup [.ref p', .ref q']) :: (p', HO.lst (xs'.map V.str)) :: (q', HO.lst (xs'.map V.str)) :: hdO r
    simp only [List.mem_cons] at m ⊢
    rcases m with m | m | m | m
    · simp [m]
    · simp [m]
    · simp [m]
    · have := hdO_snoc m
      simp only [List.mem_cons] at this
      rcases this with h | h | h | h <;> simp [h]
def heldA (ph : Addr) (n : Nat) : As := Exs fun hs : HE4 => Bun [Pur (hs.length ≤ n ∧ ∀ t ∈ hs, ∀ z ∈ t.2.2.2, okT z), cell ph (.lst (hdV hs)), Shs (hdO hs)]
theorem heldA_mk {ph : Addr} {n : Nat} {hs : HE4} {F : List As} (h : hs.length ≤ n) (ok : ∀ t ∈ hs, ∀ z ∈ t.2.2.2, okT z) : Ent (cell ph (.lst (hdV hs)) :: Shs (hdO hs) :: F) (heldA ph n :: F) :=
  Ent.trans (Ent.pur (p := hs.length ≤ n ∧ ∀ t ∈ hs, ∀ z ∈ t.2.2.2, okT z) ⟨h, ok⟩) (Ent.trans (Ent.bun (L := [_, _, _])) (Ent.exs (f := fun hs : HE4 => Bun [Pur (hs.length ≤ n ∧ ∀ t ∈ hs, ∀ z ∈ t.2.2.2, okT z), cell ph (.lst (hdV hs)), Shs (hdO hs)]) hs))
theorem wps_held {ph : Addr} {n : Nat} {F : List As} {σ : L2.St} {t : TS} {nx bk ct : SL} {rt : VL} (h : ∀ hs : HE4, hs.length ≤ n → (∀ t ∈ hs, ∀ z ∈ t.2.2.2, okT z) → WpS (cell ph (.lst (hdV hs)) :: Shs (hdO hs) :: F) σ t nx rt bk ct) : WpS (heldA ph n :: F) σ t nx rt bk ct :=
  wps_exs fun hs => wps_ent (Ent.unbun (L := [_, _, _])) (wps_pur fun ⟨a, b⟩ => h hs a b)
theorem heldA_up {ph : Addr} {n m : Nat} {F : List As} (h : n ≤ m) : Ent (heldA ph n :: F) (heldA ph m :: F) := Ent.of (X := [heldA ph n]) (Y := [heldA ph m]) fun F H s => by
  have s : Sats H (heldA ph n :: F) := s
  obtain ⟨hs, s⟩ := s.exs
  have s1 : Sats H (Pur (hs.length ≤ n ∧ ∀ t ∈ hs, ∀ z ∈ t.2.2.2, okT z) :: cell ph (.lst (hdV hs)) :: Shs (hdO hs) :: F) := (Ent.unbun (L := [_, _, _])).ap s
  have p := s1.pur
  have s2 := Ent.drop.ap s1
  exact (heldA_mk (n := m) (Nat.le_trans p.1 h) p.2).ap s2
theorem heldA_add {ph t p q : Addr} {n : Nat} {hs : HE4} {xs : List Str} {F : List As} (h : hs.length ≤ n) (ok : ∀ t ∈ hs, ∀ z ∈ t.2.2.2, okT z) (ox : ∀ z ∈ xs, okT z) :
    Ent (Sh t (.tup [.ref p, .ref q]) :: cell p (.lst (xs.map V.str)) :: cell q (.lst (xs.map V.str)) :: cell ph (.lst (hdV hs ++ [.ref t])) :: Shs (hdO hs) :: F) (heldA ph (n + 1) :: F) := by
  have e : hdV hs ++ [.ref t] = hdV (hs ++ [(t, p, q, xs)]) := by unfold hdV; rw [List.map_append]; rfl
  rw [e]
  refine Ent.trans (Ent.cons (Ent.cons Ent.swap)) (Ent.trans (Ent.cons Ent.swap) (Ent.trans Ent.swap (Ent.trans (Ent.cons ?_) (heldA_mk (hs := hs ++ [(t, p, q, xs)]) (by rw [List.length_append]; exact Nat.succ_le_succ h) ?_))))
  · refine Ent.trans (Ent.cons (Ent.cons Ent.shs)) (Ent.trans (Ent.cons Ent.shs) (Ent.trans Ent.shs1 (Ent.mapHead fun _ ⟨a, b⟩ => ⟨a, fun y my => b y (hdO_snoc my)⟩)))
  · intro u m
    rcases List.mem_append.mp m with m | m
    · exact ok u m
    · rcases List.mem_cons.mp m with rfl | m
      · exact ox
      · cases m
def B_one7 (Kf : PySem.W.Frag) : Bd := fun vs L K _ => ∃ (b kd ph : Addr) (way : Int) (z : Str) (l : AL) (n : Nat) (F : List As), vs = [.ref b, .ref kd, .int way, .str z, .ref ph] ∧ L = purA Kf b l :: cell kd (.dK (kvI l)) :: heldA ph n :: F ∧ (0 ≤ way ∧ way < 4) ∧ (way < 2 → (getI l z).isSome = true) ∧ (∀ y ∈ keysI l, okT y) ∧ l.length ≤ 1000 ∧ n ≤ 90000 ∧
  K (.bl true) (purA Kf b l :: cell kd (.dK (kvI l)) :: heldA ph (n + 1) :: F)
theorem ok_other : okT (Str.ofString "other") := okT_low (by decide +kernel)
/-! ### what is asked, in any order -/
abbrev ASK := List (Addr × Int × Str)
def askV (as : ASK) : List V := as.map fun t => V.ref t.1
def askO (as : ASK) : List (Addr × HO) := as.map fun t => (t.1, HO.tup [.int t.2.1, .str t.2.2])
def askOk (l : AL) (as : ASK) : Prop := ∀ t ∈ as, (0 ≤ t.2.1 ∧ t.2.1 < 4) ∧ (t.2.1 < 2 → (getI l t.2.2).isSome = true)
theorem cutV_mem {xs : List V} {lo hi : Option Int} {y : V} (h : y ∈ cutV xs lo hi) : y ∈ xs := List.mem_of_mem_drop (List.mem_of_mem_take h)
def B_same7 (Kf : PySem.W.Frag) : Bd := fun vs L K _ => ∃ (b kd ps ph : Addr) (turn : Int) (l : AL) (zs : List Str) (n : Nat) (F : List As), vs = [.ref b, .ref kd, .ref ps, .int turn, .ref ph] ∧ L = purA Kf b l :: cell kd (.dK (kvI l)) :: heldA ph n :: F ∧ HasL Kf F ps (zs.map V.str) ∧ zs.length ≤ 240 ∧ (∀ y ∈ keysI l, okT y) ∧ l.length ≤ 1000 ∧ n ≤ 80000 ∧
  K (.bl true) (purA Kf b l :: cell kd (.dK (kvI l)) :: heldA ph (n + 1000) :: F)
theorem Ent.shsIn {m m' : List (Addr × HO)} {L : List As} (h : ∀ p ∈ m', p ∈ m) : Ent (Shs m :: L) (Shs m' :: L) := Ent.mapHead fun _ ⟨a, b⟩ => ⟨a, fun q mq => b q (h q mq)⟩
theorem ask_first {t1 t2 : Addr} {L : List As} : Ent (Sh t2 (.tup [.int 3, .str ""]) :: Sh t1 (.tup [.int 2, .str ""]) :: L) (Shs (askO [(t1, 2, ""), (t2, 3, "")]) :: L) :=
  Ent.trans (Ent.cons (Ent.cons Ent.shs0)) (Ent.trans (Ent.cons Ent.shs1) (Ent.trans Ent.shs1 (Ent.shsIn fun p m => by
    rcases List.mem_cons.mp m with rfl | m
    · exact List.mem_cons_of_mem _ List.mem_cons_self
    · rcases List.mem_cons.mp m with rfl | m
      · exact List.mem_cons_self
      · cases m)))
theorem ask_more {t1 t2 : Addr} {z : Str} {as : ASK} {L : List As} : Ent (Sh t2 (.tup [.int 1, .str z]) :: Sh t1 (.tup [.int 0, .str z]) :: Shs (askO as) :: L) (Shs (askO (as ++ [(t1, 0, z), (t2, 1, z)])) :: L) :=
  Ent.trans (Ent.cons Ent.shs1) (Ent.trans Ent.shs1 (Ent.shsIn fun p m => by
    unfold askO at m ⊢
    rw [List.map_append] at m
    rcases List.mem_append.mp m with m | m
    · exact List.mem_cons_of_mem _ (List.mem_cons_of_mem _ m)
    · rcases List.mem_cons.mp m with rfl | m
      · exact List.mem_cons_of_mem _ List.mem_cons_self
      · rcases List.mem_cons.mp m with rfl | m
        · exact List.mem_cons_self
        · cases m))
theorem askV_more {t1 t2 : Addr} {z : Str} {as : ASK} : askV as ++ [.ref t1, .ref t2] = askV (as ++ [(t1, 0, z), (t2, 1, z)]) := by
  unfold askV
  rw [List.map_append]
  rfl
theorem askOk_more {l : AL} {t1 t2 : Addr} {z : Str} {as : ASK} (h : askOk l as) (hz : (getI l z).isSome = true) : askOk l (as ++ [(t1, 0, z), (t2, 1, z)]) := fun t m => by
  rcases List.mem_append.mp m with m | m
  · exact h t m
  · rcases List.mem_cons.mp m with rfl | m
    · exact ⟨⟨show (0 : Int) ≤ 0 by decide, show (0 : Int) < 4 by decide⟩, fun _ => hz⟩
    · rcases List.mem_cons.mp m with rfl | m
      · exact ⟨⟨show (0 : Int) ≤ 1 by decide, show (1 : Int) < 4 by decide⟩, fun _ => hz⟩
      · cases m
theorem Ent.in3 {A B C D : As} {L : List As} : Ent (D :: A :: B :: C :: L) (A :: B :: C :: D :: L) := Ent.trans Ent.swap (Ent.cons (Ent.trans Ent.swap (Ent.cons Ent.swap)))
theorem Ent.out3 {A B C D : As} {L : List As} : Ent (A :: B :: C :: D :: L) (D :: A :: B :: C :: L) := Ent.trans (Ent.cons (Ent.cons Ent.swap)) (Ent.trans (Ent.cons Ent.swap) Ent.swap)
end Q

namespace Q
open PySem PySem.Spec L2 PyProof.Rows
def B_ref7 (Kf : PySem.W.Frag) : Bd := fun vs L K _ => ∃ (b : Addr) (z : Str) (l : AL) (F : List As), vs = [.ref b, .str z] ∧ L = purA Kf b l :: F ∧ getI l z = none ∧ K (.bl true) (purA Kf b l :: F)
def al0 (xs : List Str) : AL := xs.map fun x => (x, 0)
theorem al0_keys (xs : List Str) : keysI (al0 xs) = xs := by
  unfold keysI al0
  rw [List.map_map]
  exact List.map_id _
theorem al0_len (xs : List Str) : (al0 xs).length = xs.length := by simp [al0]
theorem al0_none {xs : List Str} {z : Str} (h : z ∉ xs) : getI (al0 xs) z = none := by
  have := getI_mem (l := al0 xs) (z := z)
  rw [al0_keys, decide_eq_false h] at this
  cases e : getI (al0 xs) z with
  | none => rfl
  | some v => rw [e] at this; cases this
theorem al0_put {xs : List Str} {z : Str} (h : z ∉ xs) : putI (al0 xs) z 0 = al0 (xs ++ [z]) := by
  unfold putI
  rw [al0_none h, if_neg (by simp)]
  unfold al0
  rw [List.map_append]
  rfl
/-- one of the law's words -/
def isWd (c : Int) (z : Str) : Prop := ∃ i : Nat, i < 260 ∧ z = wordS (i : Int) c
theorem isWd.name {c : Int} {z : Str} (h : isWd c z) : nameS z = true := by
  obtain ⟨i, _, rfl⟩ := h
  exact wordS_name c (by omega)
theorem isWd.ok {c : Int} {z : Str} (h : isWd c z) : okT z := by
  obtain ⟨i, _, rfl⟩ := h
  exact wordS_ok c (by omega)
theorem isWd.len {c : Int} {z : Str} (h : isWd c z) : z.length ≤ 12 := by
  obtain ⟨i, _, rfl⟩ := h
  exact (wordS_len _ _).2
/-- the names of the purses opened at first -/
def firstN (c : Int) (m : Nat) : List Str := [wordS 0 c, wordS 7 c] ++ (List.range m).map fun (k : Nat) => wordS (40 + (k : Int)) c
theorem firstN_nodup (c : Int) {m : Nat} (hm : m ≤ 200) : (firstN c m).Nodup := by
  have inj : ∀ {j k : Int}, 0 ≤ j → j < 676 → 0 ≤ k → k < 676 → wordS j c = wordS k c → j = k := fun a b d e f => wordS_inj a b d e f
  unfold firstN
  rw [List.nodup_append]
  refine ⟨?_, ?_, ?_⟩
  · refine List.nodup_cons.mpr ⟨fun m => ?_, by simp⟩
    rcases List.mem_cons.mp m with e | m
    · have := inj (by decide) (by decide) (by decide) (by decide) e
      omega
    · cases m
  · refine List.pairwise_map.mpr (List.Pairwise.imp_of_mem (fun {i j} hi hj hne e => hne ?_) List.nodup_range)
    have h1 := List.mem_range.mp hi
    have h2 := List.mem_range.mp hj
    have := inj (by omega) (by omega) (by omega) (by omega) e
    omega
  · intro a ma b mb e
    obtain ⟨k, hk, rfl⟩ := List.mem_map.mp mb
    have h2 := List.mem_range.mp hk
    rcases List.mem_cons.mp ma with rfl | ma
    · have := inj (by decide) (by decide) (by omega) (by omega) e
      omega
    · rcases List.mem_cons.mp ma with rfl | ma
      · have := inj (by decide) (by decide) (by omega) (by omega) e
        omega
      · cases ma
theorem firstN_wd {c : Int} {m : Nat} (hm : m ≤ 200) : ∀ z ∈ firstN c m, isWd c z := fun z h => by
  rcases List.mem_append.mp h with h | h
  · rcases List.mem_cons.mp h with rfl | h
    · exact ⟨0, by omega, rfl⟩
    · rcases List.mem_cons.mp h with rfl | h
      · exact ⟨7, by omega, rfl⟩
      · cases h
  · obtain ⟨k, hk, rfl⟩ := List.mem_map.mp h
    have := List.mem_range.mp hk
    exact ⟨40 + k, by omega, rfl⟩
theorem firstN_len (c : Int) (m : Nat) : (firstN c m).length = m + 2 := by
  unfold firstN
  rw [List.length_append, List.length_map, List.length_range]
  show 2 + m = m + 2
  omega
def B_opened7 (Kf : PySem.W.Frag) : Bd := fun vs L K _ => ∃ (a pb pk pw b0 b1 k0 k1 : Addr) (ns : List Int) (ws : List Str) (F : List As), vs = [.ref a, .ref pb, .ref pk, .ref pw] ∧ L = purA Kf b0 [] :: purA Kf b1 [] :: cell k0 (.dK []) :: cell k1 (.dK []) :: F ∧ HasL Kf F a (ns.map V.int) ∧ HasL Kf F pb [.ref b0, .ref b1] ∧ HasL Kf F pk [.ref k0, .ref k1] ∧ HasL Kf F pw ((wordS 0 (cellI ns 1) :: wordS 7 (cellI ns 1) :: ws).map V.str) ∧
  ∀ (m : Nat) p, m ≤ 200 → K (.ref p) (cell p (.lst ((firstN (cellI ns 1) m).map V.str)) :: purA Kf b0 (al0 (firstN (cellI ns 1) m)) :: purA Kf b1 (al0 (firstN (cellI ns 1) m)) :: cell k0 (.dK (kvI (al0 (firstN (cellI ns 1) m)))) :: cell k1 (.dK (kvI (al0 (firstN (cellI ns 1) m)))) :: F)
theorem firstN_app (c : Int) (m : Nat) : (firstN c 0).map V.str ++ (List.range m).map (fun (i : Nat) => V.str (wordS (40 + (i : Int)) c)) = (firstN c m).map V.str := by
  unfold firstN
  simp [List.map_append, List.map_map, Function.comp_def]
def W5 (c : Int) : List Str := (List.range 5).map fun (k : Nat) => wordS (7 * (k : Int)) c
def W16 (c : Int) (pt : Addr) : List V := ((W5 c).map V.str ++ (W5 c).map V.str) ++ [.str "", .str "Till", .str "abcdefghijklm", .int 7, .non, .ref pt]
theorem W5_wd {c : Int} : ∀ z ∈ W5 c, isWd c z := fun z h => by
  obtain ⟨k, hk, rfl⟩ := List.mem_map.mp h
  have := List.mem_range.mp hk
  exact ⟨7 * k, by omega, rfl⟩
def A6 : List V := [.int 0, .int (-1), .int (10 ^ 30 + 1), .bl true, .str "5", .int (10 ^ 30)]
theorem W16_ok {c : Int} {pt : Addr} {x : V} (h : x ∈ W16 c pt) : (isName x = true → ∃ z, x = .str z ∧ isWd c z) ∧ okS x ∧ ∀ L : List As, Has (cell pt (.lst [V.str "till"])) L → ∃ t, Ty L x t := by
  have words : ∀ z, z ∈ W5 c → (isName (.str z) = true → ∃ z', V.str z = .str z' ∧ isWd c z') ∧ okS (.str z) ∧ ∀ L : List As, Has (cell pt (.lst [V.str "till"])) L → ∃ t, Ty L (.str z) t := fun z m =>
    ⟨fun _ => ⟨z, rfl, W5_wd z m⟩, (by show z.length ≤ 1000; have := (W5_wd z m).len; omega), fun L _ => ⟨_, .str z⟩⟩
  rcases List.mem_append.mp h with h | h
  · rcases List.mem_append.mp h with h | h
    · obtain ⟨z, m, rfl⟩ := List.mem_map.mp h
      exact words z m
    · obtain ⟨z, m, rfl⟩ := List.mem_map.mp h
      exact words z m
  · simp only [List.mem_cons, List.not_mem_nil, or_false] at h
    rcases h with rfl | rfl | rfl | rfl | rfl | rfl
    · exact ⟨fun e => absurd e (by decide +kernel), (by show (Str.ofString "").length ≤ 1000; decide +kernel), fun L _ => ⟨_, .str _⟩⟩
    · exact ⟨fun e => absurd e (by decide +kernel), (by show (Str.ofString "Till").length ≤ 1000; decide +kernel), fun L _ => ⟨_, .str _⟩⟩
    · exact ⟨fun e => absurd e (by decide +kernel), (by show (Str.ofString "abcdefghijklm").length ≤ 1000; decide +kernel), fun L _ => ⟨_, .str _⟩⟩
    · exact ⟨fun e => (nomatch e), trivial, fun L _ => ⟨_, .int _⟩⟩
    · exact ⟨fun e => (nomatch e), trivial, fun L _ => ⟨_, .non⟩⟩
    · exact ⟨fun e => (nomatch e), trivial, fun L hh => ⟨_, .lst (.c hh)⟩⟩
theorem A6_ok {x : V} (h : x ∈ A6) : ∃ t, ∀ L : List As, Ty L x t := by
  simp only [A6, List.mem_cons, List.not_mem_nil, or_false] at h
  rcases h with rfl | rfl | rfl | rfl | rfl | rfl
  · exact ⟨_, fun L => .int _⟩
  · exact ⟨_, fun L => .int _⟩
  · exact ⟨_, fun L => .int _⟩
  · exact ⟨_, fun L => .bl _⟩
  · exact ⟨_, fun L => .str _⟩
  · exact ⟨_, fun L => .int _⟩
/-- a book whose purses are the law's words -/
def GoodL (c : Int) (l : AL) (i : Nat) : Prop := (∀ z ∈ keysI l, isWd c z) ∧ l.length ≤ 202 + i
theorem due_good {c : Int} {l : AL} {i : Nat} {way : Int} {x y : V} (h : GoodL c l i) (hx : isName x = true → ∃ z, x = .str z ∧ isWd c z) : GoodL c (dueM l way x y).2 (i + 1) := by
  refine ⟨?_, Nat.le_trans due_len (by have := h.2; omega)⟩
  have same : ∀ z ∈ keysI l, isWd c z := h.1
  unfold dueM
  split
  · split
    · rename_i hn
      split
      · exact same
      · rename_i hp
        obtain ⟨z, rfl, hw⟩ := hx hn
        have e : getI l z = none := by
          cases e : getI l z with
          | none => rfl
          | some v => exact absurd (show isPu l (.str z) = true by show (getI l z).isSome = true; rw [e]; rfl) hp
        show ∀ u ∈ keysI (putI l z 0), isWd c u
        rw [keysI_new _ e]
        intro u m
        rcases List.mem_append.mp m with m | m
        · exact same u m
        · rcases List.mem_cons.mp m with rfl | m
          · exact hw
          · cases m
    · exact same
  · split
    · rename_i hp
      split
      · split
        · rename_i z n _
          split
          · exact same
          · show ∀ u ∈ keysI (putI l z _), isWd c u
            rw [keysI_put _ hp]
            exact same
        · exact same
      · exact same
    · exact same
theorem GoodL.up {c : Int} {l : AL} {i j : Nat} (h : GoodL c l i) (le : i ≤ j) : GoodL c l j := ⟨h.1, by have := h.2; omega⟩
theorem GoodL.ok {c : Int} {l : AL} {i : Nat} (h : GoodL c l i) : ∀ y ∈ keysI l, okT y := fun y m => (h.1 y m).ok
/-- no word of the law is this one -/
theorem not_north {c : Int} {i : Nat} (hi : i < 260) : wordS (i : Int) c ≠ Str.ofString "north" := by
  intro e
  have e2 : wordL (i : Int) c = [110, 111, 114, 116, 104] := by
    have h1 : (wordS (i : Int) c).cps.toList = wordL (i : Int) c := strL_list _
    rw [← h1, e]
    decide +kernel
  have sm : ∀ j : Int, 0 ≤ j → j < 10 → letter j ≠ 110 ∧ letter j ≠ 111 ∧ letter j ≠ 114 ∧ letter j ≠ 116 := by
    intro j h0 h1
    have hj : j = 0 ∨ j = 1 ∨ j = 2 ∨ j = 3 ∨ j = 4 ∨ j = 5 ∨ j = 6 ∨ j = 7 ∨ j = 8 ∨ j = 9 := by omega
    rcases hj with rfl | rfl | rfl | rfl | rfl | rfl | rfl | rfl | rfl | rfl <;> decide +kernel
  obtain ⟨s1, s2, s3, s4⟩ := sm ((i : Int) / 26 % 26) (by omega) (by omega)
  unfold wordL at e2
  split at e2
  · split at e2
    · have := congrArg List.length e2
      simp at this
    · injection e2 with h _
      exact s1 h
  · have hm : ∀ (n : Nat) (A : List Nat), A.length = n → A ++ toldL (i : Int) ++ (moreN (mixI c 0) (mixI c 0 / 12 % 11).toNat).drop (c / 2 % ((mixI c 0 / 12 % 11).toNat + 1 : Nat)).toNat = [110, 111, 114, 116, 104] → False := by
      intro n A hA h
      match A, h with
      | [], h => injection h with h _; exact s1 h
      | [_], h => injection h with _ h; injection h with h _; exact s2 h
      | [_, _], h => injection h with _ h; injection h with _ h; injection h with h _; exact s3 h
      | [_, _, _], h => injection h with _ h; injection h with _ h; injection h with _ h; injection h with h _; exact s4 h
      | _ :: _ :: _ :: _ :: A, h =>
        have := congrArg List.length h
        simp [toldL] at this
        omega
    exact hm _ _ rfl e2
theorem north_out {c : Int} {l : AL} {i : Nat} (h : GoodL c l i) : getI l (Str.ofString "north") = none := by
  have e := getI_mem (l := l) (z := Str.ofString "north")
  cases d : getI l (Str.ofString "north") with
  | none => rfl
  | some v =>
    rw [d] at e
    have m := of_decide_eq_true (e.symm.trans rfl)
    obtain ⟨j, hj, ej⟩ := h.1 _ m
    exact absurd ej.symm (not_north hj)
theorem purA_mk2 {Kf : PySem.W.Frag} {b dx pf pa pp : Addr} {F : List As} : Ent (cell pp (.dK []) :: cell pa (.dK []) :: cell pf (.dK []) :: cell b (.ins (He.ga Kf "Book") dx (bF 0 pf pa pp)) :: cell dx (.own b) :: F) (purA Kf b [] :: F) :=
  Ent.trans (Ent.cons (Ent.cons (Ent.cons (Ent.cons Ent.drop)))) (Ent.trans (Pick.ent (A := cell b (.ins (He.ga Kf "Book") dx (bF 0 pf pa pp))) (.there (.there (.there .here)))) (Ent.trans (Ent.cons (Pick.ent (A := cell pf (.dK [])) (.there (.there .here)))) (Ent.trans (Ent.cons (Ent.cons Ent.swap)) (purA_mk (l := [])))))
theorem wpe_exs {α : Type} {f : α → As} {L : List As} {σ : L2.St} {te : TE} {K : VL} (h : ∀ x, WpE (f x :: L) σ te K) : WpE (Exs f :: L) σ te K := fun H Q s q => by
  obtain ⟨x, s⟩ := s.exs
  exact h x H Q s q
theorem wpe_purP {p : Prop} {L : List As} {σ : L2.St} {te : TE} {K : VL} (h : p → WpE L σ te K) : WpE (Pur p :: L) σ te K := fun H Q s q => h s.pur H Q (Ent.drop.ap s) q
theorem wpe_held {ph : Addr} {n : Nat} {F : List As} {σ : L2.St} {te : TE} {K : VL} (h : ∀ hs : HE4, hs.length ≤ n → (∀ t ∈ hs, ∀ z ∈ t.2.2.2, okT z) → WpE (cell ph (.lst (hdV hs)) :: Shs (hdO hs) :: F) σ te K) : WpE (heldA ph n :: F) σ te K :=
  wpe_exs fun hs => wpe_ent (Ent.unbun (L := [_, _, _])) (wpe_purP fun ⟨a, b⟩ => h hs a b)
theorem wpe_purA {Kf : PySem.W.Frag} {b : Addr} {l : AL} {F : List As} {σ : L2.St} {te : TE} {K : VL} (h : ∀ dx pf pa pp, WpE (cell b (.ins (He.ga Kf "Book") dx (bF 0 pf pa pp)) :: cell pf (.dK (kvI l)) :: cell pa (.dK (kvI (zerI l))) :: cell pp (.dK []) :: F) σ te K) : WpE (purA Kf b l :: F) σ te K :=
  wpe_exs fun q => wpe_ent (Ent.unbun (L := [_, _, _, _])) (h q.1 q.2.1 q.2.2.1 q.2.2.2)
theorem e_step {A : As} {L F F' : List As} (pk : Pick A L F) (e : Ent F F') : Ent L (A :: F') := Ent.trans pk.ent e.cons
end Q

namespace Q
open PySem PySem.Spec L2
open PyProof.Rows (envOfC)
local macro_rules | `(tactic| w_left) => `(tactic| first | ((with_reducible show CMul _ _); unfold CMul; first | exact .inl ⟨by decide, by decide⟩ | exact .inr ⟨by decide, by decide⟩) | ((with_reducible show CPow _ _); unfold CPow; exact ⟨by decide, by decide, by decide⟩) | ((with_reducible show CDiv _ _); unfold CDiv; exact ⟨by decide, by decide⟩) | (show (0 : Int) < _; decide) | omega | (show (0 : Int) < _; omega))
/-- one step -/
local macro_rules | `(tactic| wrow_close) => `(tactic| (first
  | with_reducible refine wps_seq ?_ | with_reducible refine wps_asg ?_ | with_reducible refine wps_if ?_ | with_reducible refine wps_ret ?_ | with_reducible refine wps_retN ?_ | with_reducible refine wps_drop ?_ | with_reducible refine wps_next ?_
  | ((with_reducible show WpE _ _ (tVar _) _); refine wpe_var rfl ?_) | with_reducible refine wpe_c ?_ | with_reducible refine wpe_op ?_ | with_reducible refine wpe_cb ?_ | with_reducible refine wpe_un ?_ | with_reducible refine wpa_cons ?_ | with_reducible refine wpa_nil ?_ | with_reducible refine wpe_if ?_
  | with_reducible refine wpe_andV ?_ | with_reducible refine wpe_orV ?_ | with_reducible refine wpe_notV ?_ | with_reducible refine wpe_chain ?_ | with_reducible refine wpt_test ?_ | with_reducible refine wpt_B ?_ | with_reducible refine wpt_and ?_ | with_reducible refine wpt_or ?_ | with_reducible refine wpt_not ?_ | with_reducible refine wpt_yes ?_
  | with_reducible refine wb ?_ | with_reducible refine wu_I ?_ | with_reducible refine wr_I0 ?_ | ((with_reducible refine wr_I ?hc ?_); (case hc => w_left)) | ((with_reducible refine wr_eq ?hc ?_); (case hc => exact rfl)) | ((with_reducible refine wr_ne ?hc ?_); (case hc => exact rfl)) | with_reducible refine wr_isN ?_ | with_reducible refine wr_inS ?_ | with_reducible refine wc_int1 ?_ | with_reducible refine wpg_name ?_ | with_reducible refine wpe_call0 ?_ | with_reducible refine wpe_callE (by assumption) ?_ | with_reducible refine wpe_callW (by assumption) ?_ | with_reducible refine wps_tryO ?_ | with_reducible refine wps_tryM ?_ | with_reducible refine wps_tryA ?_ | with_reducible refine wpe_lst ?_ | with_reducible refine wpe_tup ?_ | with_reducible refine wpe_dnew ?_ | with_reducible refine wpe_sl ?_ | with_reducible refine wpo_none ?_ | with_reducible refine wpo_some ?_ | with_reducible refine wi ?_ | with_reducible refine iteT ?_ | with_reducible refine iteF ?_ | ((with_reducible show (if _ = true then _ else _)); first | refine ite_y rfl ?_ | refine ite_n rfl ?_)))
/-- on and on -/
local macro_rules | `(tactic| w_means) => `(tactic| (repeat wrow_close))
/-- .. up to a joint: an if, a loop with something behind -/
local macro_rules | `(tactic| close_w) => `(tactic| (repeat ((fail_if_success (with_reducible show WpS _ _ (tSeq (tIfS _ _ _) _) _ _ _ _)); wrow_close)))
local macro_rules | `(tactic| w_fin) => `(tactic| (repeat (first | exact Has.here | refine Has.there ?_)))

local macro_rules | `(tactic| o_reads) => `(tactic| (repeat (first | exact Ent.refl _ | exact Ent.nil | (with_reducible refine Ent.cons ?_) | refine Ent.trans Ent.drop ?_)))
def top (i : Nat) : Stmt := PySem.Challenge.pw_escrowbook_k07_purses.main.body.getD i (.Pass ⟨0, 0, 0, 0⟩)
abbrev s_is_whole : Stmt := top 17
abbrev s_name_of : Stmt := top 18
abbrev s_amount_of : Stmt := top 19
abbrev s_day_of : Stmt := top 20
abbrev s_Pact___init__ : Stmt := inClass (top 23) 0
abbrev s_shares_of : Stmt := top 24
abbrev s_need_even : Stmt := top 25
abbrev s_needs_of : Stmt := top 26
abbrev s_Book___init__ : Stmt := inClass (top 28) 0
abbrev s_Book_open_purse : Stmt := inClass (top 28) 1
abbrev s_Book_need_purse : Stmt := inClass (top 28) 2
abbrev s_Book_put : Stmt := inClass (top 28) 5
abbrev s_Book_take : Stmt := inClass (top 28) 6
abbrev s_Book_tell : Stmt := inClass (top 28) 7
abbrev s_Book_purses : Stmt := inClass (top 28) 21
abbrev s_Book_told : Stmt := inClass (top 28) 22
abbrev s_Book_free_of : Stmt := inClass (top 28) 23
abbrev s_Book_aside_of : Stmt := inClass (top 28) 24
abbrev s__law_whole : Stmt := top 30
abbrev s__law_cell_at : Stmt := top 31
abbrev s__law_mixed : Stmt := top 32
abbrev s__law_word : Stmt := top 33
abbrev s__law_is_name : Stmt := top 34
abbrev s__law_told : Stmt := top 35
abbrev s__law_due : Stmt := top 36
abbrev s__law_one_same : Stmt := top 37
abbrev s__law_same : Stmt := top 38
abbrev s__law_refused_by_any : Stmt := top 39
abbrev s__law_opened : Stmt := top 40
abbrev s_law : Stmt := top 41
def d_is_whole : He.DefD := ⟨("is_whole", none), "is_whole", "is_whole", defArgs s_is_whole, defBody s_is_whole, defScope s_is_whole, [], []⟩
def d_name_of : He.DefD := ⟨("name_of", none), "name_of", "name_of", defArgs s_name_of, defBody s_name_of, defScope s_name_of, [], []⟩
def d_amount_of : He.DefD := ⟨("amount_of", none), "amount_of", "amount_of", defArgs s_amount_of, defBody s_amount_of, defScope s_amount_of, [], []⟩
def d_day_of : He.DefD := ⟨("day_of", none), "day_of", "day_of", defArgs s_day_of, defBody s_day_of, defScope s_day_of, [], []⟩
def d_Pact___init__ : He.DefD := ⟨("Pact", some "__init__"), "__init__", "Pact.__init__", defArgs s_Pact___init__, defBody s_Pact___init__, defScope s_Pact___init__, [], []⟩
def d_shares_of : He.DefD := ⟨("shares_of", none), "shares_of", "shares_of", defArgs s_shares_of, defBody s_shares_of, defScope s_shares_of, [], []⟩
def d_need_even : He.DefD := ⟨("need_even", none), "need_even", "need_even", defArgs s_need_even, defBody s_need_even, defScope s_need_even, [], []⟩
def d_needs_of : He.DefD := ⟨("needs_of", none), "needs_of", "needs_of", defArgs s_needs_of, defBody s_needs_of, defScope s_needs_of, [], []⟩
def d_Book___init__ : He.DefD := ⟨("Book", some "__init__"), "__init__", "Book.__init__", defArgs s_Book___init__, defBody s_Book___init__, defScope s_Book___init__, [], []⟩
def d_Book_open_purse : He.DefD := ⟨("Book", some "open_purse"), "open_purse", "Book.open_purse", defArgs s_Book_open_purse, defBody s_Book_open_purse, defScope s_Book_open_purse, [], []⟩
def d_Book_need_purse : He.DefD := ⟨("Book", some "need_purse"), "need_purse", "Book.need_purse", defArgs s_Book_need_purse, defBody s_Book_need_purse, defScope s_Book_need_purse, [], []⟩
def d_Book_put : He.DefD := ⟨("Book", some "put"), "put", "Book.put", defArgs s_Book_put, defBody s_Book_put, defScope s_Book_put, [], []⟩
def d_Book_take : He.DefD := ⟨("Book", some "take"), "take", "Book.take", defArgs s_Book_take, defBody s_Book_take, defScope s_Book_take, [], []⟩
def d_Book_tell : He.DefD := ⟨("Book", some "tell"), "tell", "Book.tell", defArgs s_Book_tell, defBody s_Book_tell, defScope s_Book_tell, [], []⟩
def d_Book_purses : He.DefD := ⟨("Book", some "purses"), "purses", "Book.purses", defArgs s_Book_purses, defBody s_Book_purses, defScope s_Book_purses, [], []⟩
def d_Book_told : He.DefD := ⟨("Book", some "told"), "told", "Book.told", defArgs s_Book_told, defBody s_Book_told, defScope s_Book_told, [], []⟩
def d_Book_free_of : He.DefD := ⟨("Book", some "free_of"), "free_of", "Book.free_of", defArgs s_Book_free_of, defBody s_Book_free_of, defScope s_Book_free_of, [], []⟩
def d_Book_aside_of : He.DefD := ⟨("Book", some "aside_of"), "aside_of", "Book.aside_of", defArgs s_Book_aside_of, defBody s_Book_aside_of, defScope s_Book_aside_of, [], []⟩
def d__law_whole : He.DefD := ⟨("_law_whole", none), "_law_whole", "_law_whole", defArgs s__law_whole, defBody s__law_whole, defScope s__law_whole, [], []⟩
def d__law_cell_at : He.DefD := ⟨("_law_cell_at", none), "_law_cell_at", "_law_cell_at", defArgs s__law_cell_at, defBody s__law_cell_at, defScope s__law_cell_at, [], []⟩
def d__law_mixed : He.DefD := ⟨("_law_mixed", none), "_law_mixed", "_law_mixed", defArgs s__law_mixed, defBody s__law_mixed, defScope s__law_mixed, [], []⟩
def d__law_word : He.DefD := ⟨("_law_word", none), "_law_word", "_law_word", defArgs s__law_word, defBody s__law_word, defScope s__law_word, [], []⟩
def d__law_is_name : He.DefD := ⟨("_law_is_name", none), "_law_is_name", "_law_is_name", defArgs s__law_is_name, defBody s__law_is_name, defScope s__law_is_name, [], []⟩
def d__law_told : He.DefD := ⟨("_law_told", none), "_law_told", "_law_told", defArgs s__law_told, defBody s__law_told, defScope s__law_told, [], []⟩
def d__law_due : He.DefD := ⟨("_law_due", none), "_law_due", "_law_due", defArgs s__law_due, defBody s__law_due, defScope s__law_due, [], []⟩
def d__law_one_same : He.DefD := ⟨("_law_one_same", none), "_law_one_same", "_law_one_same", defArgs s__law_one_same, defBody s__law_one_same, defScope s__law_one_same, [], []⟩
def d__law_same : He.DefD := ⟨("_law_same", none), "_law_same", "_law_same", defArgs s__law_same, defBody s__law_same, defScope s__law_same, [], []⟩
def d__law_refused_by_any : He.DefD := ⟨("_law_refused_by_any", none), "_law_refused_by_any", "_law_refused_by_any", defArgs s__law_refused_by_any, defBody s__law_refused_by_any, defScope s__law_refused_by_any, [], []⟩
def d__law_opened : He.DefD := ⟨("_law_opened", none), "_law_opened", "_law_opened", defArgs s__law_opened, defBody s__law_opened, defScope s__law_opened, [], []⟩
def d_law : He.DefD := ⟨("law", none), "law", "law", defArgs s_law, defBody s_law, defScope s_law, [], []⟩
def fn : List He.DefD := ([d_is_whole, d_name_of, d_amount_of, d_day_of, d_Pact___init__, d_shares_of, d_need_even, d_needs_of, d_Book___init__, d_Book_open_purse, d_Book_need_purse, d_Book_put, d_Book_take, d_Book_tell, d_Book_purses, d_Book_told, d_Book_free_of, d_Book_aside_of, d__law_whole, d__law_cell_at] : List He.DefD) ++ ([d__law_mixed, d__law_word, d__law_is_name, d__law_told, d__law_due, d__law_one_same, d__law_same, d__law_refused_by_any, d__law_opened, d_law] : List He.DefD)
def fa : List He.Fa := ([.glo "is_whole", .glo "name_of", .glo "amount_of", .glo "day_of", .glo "shares_of", .glo "need_even", .glo "needs_of", .glo "_law_whole", .glo "_law_cell_at", .glo "_law_mixed", .glo "_law_word", .glo "_law_is_name", .glo "_law_told", .glo "_law_due", .glo "_law_one_same", .glo "_law_same", .glo "_law_refused_by_any", .glo "_law_opened", .glo "law", .glo "Pact"] : List He.Fa) ++ ([.cls "Pact", .mkr "Pact", .noat "Pact" "name", .noat "Pact" "parts", .noat "Pact" "gains", .noat "Pact" "needs", .noat "Pact" "last", .noat "Pact" "state", .noat "Pact" "inside", .glo "Book", .cls "Book", .mkr "Book", .noat "Book" "day", .noat "Book" "free", .noat "Book" "aside", .noat "Book" "pacts", .meth "Book" "open_purse", .meth "Book" "need_purse", .meth "Book" "put", .meth "Book" "take"] : List He.Fa) ++ ([.meth "Book" "tell", .meth "Book" "purses", .meth "Book" "told", .meth "Book" "free_of", .meth "Book" "aside_of", .glo "BookError", .glo "NoName", .exc "NoName", .glo "NoAmount", .exc "NoAmount", .glo "Taken", .exc "Taken", .glo "NoPurse", .exc "NoPurse", .glo "TooLittle", .exc "TooLittle", .glo "NoRow", .exc "NoRow", .glo "Twice", .exc "Twice"] : List He.Fa) ++ ([.glo "Uneven", .exc "Uneven", .glo "Fallen", .exc "Fallen", .glo "NoDay", .exc "NoDay", .str "LETTERS" "abcdefghijklmnopqrstuvwxyz", .int "LONGEST" (12), .int "MOST" (10 ^ 30), .int "MOST_THINGS" (8), .free "ValueError", .free "all", .free "bool", .free "int", .free "isinstance", .free "len", .free "list", .free "min", .free "range", .free "str"] : List He.Fa) ++ ([.free "sum", .exm "NoName" "NoName" true, .exm "Taken" "NoName" false, .exm "Taken" "Taken" true, .exm "NoPurse" "NoName" false, .exm "NoPurse" "Taken" false, .exm "NoPurse" "NoPurse" true, .exm "NoAmount" "NoName" false, .exm "NoAmount" "Taken" false, .exm "NoAmount" "NoPurse" false, .exm "NoAmount" "NoAmount" true, .exm "TooLittle" "NoName" false, .exm "TooLittle" "Taken" false, .exm "TooLittle" "NoPurse" false, .exm "TooLittle" "NoAmount" false, .exm "TooLittle" "TooLittle" true, .exm "NoPurse" "BookError" true] : List He.Fa)
def fm : List Fm := [.exi "NoPurse", .isv "NoPurse"]
abbrev TT (K : PySem.W.Frag) (mg : Str → Option Value) : Prop := Tm fa fn fm K mg
local macro_rules | `(tactic| o_reads) => `(tactic| repeat (first | exact Ent.refl _ | exact Ent.nil | (apply e_step; (case pk => (repeat (first | exact Pick.here | apply Pick.there))))))
section
variable {P : Program} {w : World} {K : PySem.W.Frag} {mg : Str → Option Value} {base : Heap}
def N__law_cell_at : List Str := ["_law_script", "_law_k"]
theorem sc__law_cell_at : FnScope N__law_cell_at ["_law_script", "_law_k"] (defScope s__law_cell_at) := ⟨rfl, rfl, rfl, by decide +kernel, rfl, by decide +kernel, by decide +kernel⟩
theorem ok__law_cell_at (T : TT K mg) : Ok P w K mg base 1 (He.ga K "_law_cell_at") (B_cell K) := by
  refine ok_of (d := d__law_cell_at) (N := N__law_cell_at) (ps := ["_law_script", "_law_k"]) T.toTx 19 rfl rfl rfl sc__law_cell_at (fun _ _ _ _ _ _ us hl => match us, hl with | [_, _], _ => rfl) (fun _ _ _ _ h => by obtain ⟨_, _, _, e, _⟩ := h; rw [e]; rfl) (fun cdv A outer s H vs L E Kv KE hr hE hB => ?_)
  obtain ⟨a, ns, j, rfl, hj, hs, k⟩ := hB
  refine ⟨_, (pss_cons (ps_if (pt_cmpR op_lt (pv 1) (pe_callB cr_lenS (by rfl) (T.free 75) (by decide +kernel) (pa_cons (pv 0) pa_nil)) (nomark _)) (pss_one (ps_ret (pe_ix ix_list (pv 0) (pv 1) (fun _ _ => rfl)))) pss_nil)
      (pss_one (ps_ret pe_int))), ?_⟩
  w_means
  refine wc_len hs ?_
  w_means
  refine ite_dec (fun c => ?_) (fun c => ?_)
  · w_means
    refine wr_ixL hs (cell_at hj c) ?_
    exact ⟨L, .refl L, k⟩
  · w_means
    rw [cell_out hj c] at k
    exact ⟨L, .refl L, k⟩
def N__law_mixed : List Str := ["_law_number", "_law_k"]
theorem sc__law_mixed : FnScope N__law_mixed ["_law_number", "_law_k"] (defScope s__law_mixed) := ⟨rfl, rfl, rfl, by decide +kernel, rfl, by decide +kernel, by decide +kernel⟩
theorem ok__law_mixed (T : TT K mg) : Ok P w K mg base 1 (He.ga K "_law_mixed") B_mixed := by
  refine ok_of (d := d__law_mixed) (N := N__law_mixed) (ps := ["_law_number", "_law_k"]) T.toTx 20 rfl rfl rfl sc__law_mixed (fun _ _ _ _ _ _ us hl => match us, hl with | [_, _], _ => rfl) (fun _ _ _ _ h => by obtain ⟨_, _, e, _⟩ := h; rw [e]; rfl) (fun cdv A outer s H vs L E Kv KE hr hE hB => ?_)
  obtain ⟨n, j, rfl, k⟩ := hB
  refine ⟨_, (pss_one (ps_ret (pe_op op_mod (pe_op op_add (pe_op op_add (pe_op op_mul (pv 0) pe_int) (pe_op op_mul (pv 1) pe_int)) pe_int) pe_int))), ?_⟩
  w_means
  exact ⟨L, .refl L, k⟩
def N__law_word : List Str := ["_law_k", "_law_cell", "_law_letters", "_law_told_here", "_law_rest", "_law_more", "_law_j", "_law_at"]
theorem sc__law_word : FnScope N__law_word ["_law_k", "_law_cell"] (defScope s__law_word) := ⟨rfl, rfl, rfl, by decide +kernel, rfl, by decide +kernel, by decide +kernel⟩
theorem ok__law_word (T : TT K mg) : Ok P w K mg base 2 (He.ga K "_law_word") B_word := by
  refine ok_of (d := d__law_word) (N := N__law_word) (ps := ["_law_k", "_law_cell"]) T.toTx 21 rfl rfl rfl sc__law_word (fun _ _ _ _ _ _ us hl => match us, hl with | [_, _], _ => rfl) (fun _ _ _ _ h => by obtain ⟨_, _, e, _⟩ := h; rw [e]; rfl) (fun cdv A outer s H vs L E Kv KE hr hE hB => ?_)
  obtain ⟨k0, c, rfl, h0, k⟩ := hB
  refine ⟨_, (pss_cons (ps_set (i := 2) sc__law_word.nd rfl (Or.inl rfl) pe_str)
      (pss_cons (ps_set (i := 3) sc__law_word.nd rfl (Or.inl rfl) (pe_op op_addT (pe_ix ix_str (pv 2) (pe_op op_mod (pe_op op_fdiv (pv 0) pe_int) pe_int) (fun _ _ => rfl)) (pe_ix ix_str (pv 2) (pe_op op_mod (pv 0) pe_int) (fun _ _ => rfl))))
      (pss_cons (ps_set (i := 4) sc__law_word.nd rfl (Or.inl rfl) (pe_callF (ok__law_mixed T) (hr.mono (by decide)) (T.glo 9) (fun σ => passAt0 σ) (pa_cons (pv 1) (pa_cons pe_int pa_nil))))
      (pss_cons (ps_if (pt_cmpR op_eq (pe_op op_mod (pv 1) pe_int) pe_int (nomark _)) (pss_cons (ps_set (i := 4) sc__law_word.nd rfl (Or.inl rfl) (pe_callF (ok__law_mixed T) (hr.mono (by decide)) (T.glo 9) (fun σ => passAt0 σ) (pa_cons (pv 1) (pa_cons (pv 0) pa_nil))))
      (pss_one (ps_if (PW.pt (pw_and (pt_cmpR op_eq (pe_op op_mod (pv 4) pe_int) pe_int (nomark _)) (pw_and1 (pt_cmpR op_lt (pv 0) pe_int (nomark _))))) (pss_one (ps_ret (pe_ix ix_str (pv 2) (pv 0) (fun _ _ => rfl)))) pss_nil))) pss_nil)
      (pss_cons (ps_set (i := 5) sc__law_word.nd rfl (Or.inl rfl) pe_str)
      (pss_cons (ps_for (passes_of rfl) rfl (pi_range1 (by rfl) (T.free 78) (pa_cons (pe_op op_mod (pe_op op_fdiv (pv 4) pe_int) pe_int) pa_nil)) (pg_name (i := 6) sc__law_word.nd rfl (Or.inl rfl))
      (pss_cons (ps_set (i := 5) sc__law_word.nd rfl (Or.inl rfl) (pe_op op_addT (pv 5) (pe_ix ix_str (pv 2) (pe_op op_mod (pe_op op_fdiv (pv 4) pe_int) pe_int) (fun _ _ => rfl))))
      (pss_one (ps_set (i := 4) sc__law_word.nd rfl (Or.inl rfl) (pe_op op_fdiv (pv 4) pe_int)))))
      (pss_cons (ps_if (pt_cmpR op_eq (pe_op op_mod (pv 1) pe_int) pe_int (nomark _)) (pss_one (ps_ret (pe_op op_addT (pv 3) (pv 5)))) pss_nil)
      (pss_cons (ps_set (i := 7) sc__law_word.nd rfl (Or.inl rfl) (pe_op op_mod (pe_op op_fdiv (pv 1) pe_int) (pe_op op_add (pe_callB cr_lenX (by rfl) (T.free 75) (by decide +kernel) (pa_cons (pv 5) pa_nil)) pe_int)))
      (pss_one (ps_ret (pe_op op_addT (pe_op op_addT (pe_slice sl_str (pv 5) po_none (po_some (pv 7))) (pv 3)) (pe_slice sl_str (pv 5) (po_some (pv 7)) po_none)))))))))))), ?_⟩
  have LL : (Str.ofString "abcdefghijklmnopqrstuvwxyz").length ≤ sizeLine := line_le (by decide +kernel)
  w_means
  refine wr_ixS LL (letter_at (mod26 _).1 (mod26 _).2) ?_
  w_means
  refine wr_ixS LL (letter_at (mod26 _).1 (mod26 _).2) ?_
  w_means
  refine wr_addT (line_le (by show 1 + 1 ≤ 100000; decide)) ?_
  rw [show ((⟨#[letter (k0 / 26 % 26)]⟩ : Str) ++ ⟨#[letter (k0 % 26)]⟩) = strL (toldL k0) from strL_app [_] [_]]
  w_means
  refine wpf_spc ⟨c, 0, rfl, ?_⟩
  close_w
  refine wps_cut (fun σ' L' => ∃ r : Int, σ' = [some (.int k0), some (.int c), some (.str (Str.ofString "abcdefghijklmnopqrstuvwxyz")), some (.str (strL (toldL k0))), some (.int r), none, none, none] ∧ L = L' ∧
    (c % 2 = 1 → r = mixI c k0 ∧ ¬ (mixI c k0 % 12 = 11 ∧ k0 < 26)) ∧ (¬ c % 2 = 1 → r = mixI c 0)) ?_ ?_
  · w_means
    refine ite_dec (fun c1 => ?_) (fun c1 => ?_)
    · have c1 : c % 2 = 1 := V.int.inj c1
      w_means
      refine wpf_spc ⟨c, k0, rfl, ?_⟩
      w_means
      refine ite_dec (fun c2 => ?_) (fun c2 => ?_)
      · have c2 : mixI c k0 % 12 = 11 := V.int.inj c2
        w_means
        refine ite_dec (fun c3 => ?_) (fun c3 => ?_)
        · w_means
          refine wr_ixS LL (letter_at h0 c3) ?_
          have e : wordS k0 c = ⟨#[letter k0]⟩ := by
            unfold wordS wordL
            rw [if_pos c1, if_pos ⟨c2, c3⟩]
            rfl
          rw [e] at k
          exact ⟨L, .refl L, k⟩
        · w_means
          exact ⟨_, rfl, rfl, fun _ => ⟨rfl, fun z => c3 z.2⟩, fun z => absurd c1 z⟩
      · have c2 : ¬ mixI c k0 % 12 = 11 := fun z => c2 (by rw [z])
        w_means
        exact ⟨_, rfl, rfl, fun _ => ⟨rfl, fun z => c2 z.1⟩, fun z => absurd c1 z⟩
    · have c1 : ¬ c % 2 = 1 := fun z => c1 (by rw [z])
      w_means
      exact ⟨_, rfl, rfl, fun z => absurd z c1, fun _ => rfl⟩
  rintro σ' L' ⟨r, rfl, rfl, hr1, hr2⟩
  have hb : 0 ≤ r / 12 % 11 := Int.emod_nonneg _ (by decide)
  have hb2 : r / 12 % 11 < 11 := Int.emod_lt_of_pos _ (by decide)
  w_means
  refine wps_forR1 (wpa_cons (wpe_op (wpe_op (wpe_var rfl (wpe_c (wr_I ⟨by decide, by decide⟩ (wpe_c (wr_I (show (0 : Int) < 11 by decide) (wpa_nil ⟨r / 12 % 11, rfl, by omega, fun i σ' L' => (∃ v : Option V,
    σ' = [some (.int k0), some (.int c), some (.str (Str.ofString "abcdefghijklmnopqrstuvwxyz")), some (.str (strL (toldL k0))), some (.int (restN r i)), some (.str (strL (moreN r i))), v, none]) ∧ L = L' ∧ i ≤ 10, ?_, ?_, ?_⟩)))))))))
  · refine .of ⟨⟨none, ?_⟩, rfl, by decide⟩
    rw [show strL (moreN r 0) = Str.ofString "" from (by decide +kernel : strL [] = Str.ofString "")]
    rfl
  · rintro i σ' L' hi ⟨⟨v, rfl⟩, rfl, hi2⟩
    w_means
    refine wr_ixS LL (letter_at (mod26 _).1 (mod26 _).2) ?_
    w_means
    refine wr_addT (line_le (by rw [strL_len, moreN_len]; show i + 1 ≤ 100000; omega)) ?_
    rw [sign_eq, strL_app, ← moreN_succ]
    w_means
    exact .of ⟨⟨_, rfl⟩, rfl, by omega⟩
  · rintro σ' L' ⟨⟨v, rfl⟩, rfl, hi2⟩
    w_means
    refine ite_dec (fun c1 => ?_) (fun c1 => ?_)
    · have c1 : c % 2 = 1 := V.int.inj c1
      obtain ⟨rfl, h2⟩ := hr1 c1
      w_means
      refine wr_addT (line_le (by rw [strL_len, strL_len, moreN_len]; show 2 + _ ≤ 100000; omega)) ?_
      rw [strL_app]
      have e : wordS k0 c = strL (toldL k0 ++ moreN (mixI c k0) (mixI c k0 / 12 % 11).toNat) := by
        unfold wordS wordL
        rw [if_pos c1, if_neg h2]
      rw [e] at k
      exact ⟨L, .refl L, k⟩
    · have c1 : ¬ c % 2 = 1 := fun z => c1 (by rw [z])
      have hr := hr2 c1
      subst hr
      have hl : (strL (moreN (mixI c 0) (mixI c 0 / 12 % 11).toNat)).length = (mixI c 0 / 12 % 11).toNat := by rw [strL_len, moreN_len]
      w_means
      refine wc_lenX (line_le (by rw [hl]; omega)) ?_
      rw [hl]
      w_means
      have e : wordS k0 c = strL ((moreN (mixI c 0) (mixI c 0 / 12 % 11).toNat).take (c / 2 % ((mixI c 0 / 12 % 11).toNat + 1 : Nat)).toNat ++ toldL k0 ++ (moreN (mixI c 0) (mixI c 0 / 12 % 11).toNat).drop (c / 2 % ((mixI c 0 / 12 % 11).toNat + 1 : Nat)).toNat) := by
        unfold wordS wordL
        rw [if_neg c1]
      rw [e] at k
      have en : (((mixI c 0 / 12 % 11).toNat : Int) + 1) = (((mixI c 0 / 12 % 11).toNat + 1 : Nat) : Int) := rfl
      rw [en]
      have a0 : 0 ≤ c / 2 % (((mixI c 0 / 12 % 11).toNat + 1 : Nat) : Int) := Int.emod_nonneg _ (by omega)
      have a1 : c / 2 % (((mixI c 0 / 12 % 11).toNat + 1 : Nat) : Int) < (((mixI c 0 / 12 % 11).toNat + 1 : Nat) : Int) := Int.emod_lt_of_pos _ (by omega)
      generalize c / 2 % (((mixI c 0 / 12 % 11).toNat + 1 : Nat) : Int) = m at a0 a1 k
      obtain ⟨j, rfl⟩ : ∃ j : Nat, m = (j : Int) := ⟨m.toNat, by omega⟩
      have hj : j ≤ (strL (moreN (mixI c 0) (mixI c 0 / 12 % 11).toNat)).length := by rw [hl]; omega
      refine wsl_str (line_le (by rw [hl]; omega)) ?_
      rw [cut_take hj, strL_list]
      w_means
      refine wr_addT (line_le (by rw [strL_len, strL_len, List.length_take, moreN_len]; show _ + 2 ≤ 100000; omega)) ?_
      rw [strL_app]
      w_means
      refine wsl_str (line_le (by rw [hl]; omega)) ?_
      rw [cut_drop hj, strL_list]
      w_means
      refine wr_addT (line_le (by rw [strL_len, strL_len, List.length_append, List.length_take, List.length_drop, moreN_len]; show _ + 2 + _ ≤ 100000; omega)) ?_
      rw [strL_app]
      rw [Int.toNat_natCast] at k
      exact ⟨L, .refl L, k⟩
def N__law_is_name : List Str := ["_law_thing", "_law_sign"]
theorem sc__law_is_name : FnScope N__law_is_name ["_law_thing"] (defScope s__law_is_name) := ⟨rfl, rfl, rfl, by decide +kernel, rfl, by decide +kernel, by decide +kernel⟩
theorem ok__law_is_name (T : TT K mg) : Ok P w K mg base 1 (He.ga K "_law_is_name") B_isname := by
  refine ok_of (d := d__law_is_name) (N := N__law_is_name) (ps := ["_law_thing"]) T.toTx 22 rfl rfl rfl sc__law_is_name (fun _ _ _ _ _ _ us hl => match us, hl with | [_], _ => rfl) (fun _ _ _ _ h => by obtain ⟨_, _, e, _⟩ := h; rw [e]; rfl) (fun cdv A outer s H vs L E Kv KE hr hE hB => ?_)
  obtain ⟨x, t, rfl, ht, hz, k⟩ := hB
  refine ⟨_, (pss_cons (ps_if (PW.pt (pw_or (pt_not (pt_val (pe_callB call_isi (by rfl) (T.free 74) (by decide +kernel) (pa_cons (pv 0) (pa_cons (pe_bltn (v := .ty "str") (by rfl) (T.free 79) (by decide +kernel) rfl) pa_nil))))) (pw_or (pt_cmpR op_eq (pv 0) pe_str (nomark _)) (pw_or1 (pt_cmpR op_gt (pe_callB cr_lenX (by rfl) (T.free 75) (by decide +kernel) (pa_cons (pv 0) pa_nil)) pe_int (nomark _)))))) (pss_one (ps_ret pe_bl)) pss_nil)
      (pss_cons (ps_for (passes_of rfl) rfl (pi_str (pv 0)) (pg_name (i := 1) sc__law_is_name.nd rfl (Or.inl rfl))
      (pss_one (ps_if (pt_cmpR op_notInS (pv 1) pe_str (by with_unfolding_all rfl)) (pss_one (ps_ret pe_bl)) pss_nil)))
      (pss_one (ps_ret pe_bl)))), ?_⟩
  w_means
  refine wc_isi ht.kd ht.kstr ?_
  cases x with
  | str z =>
    w_means
    refine ite_dec (fun c1 => ?_) (fun c1 => ?_)
    · w_means
      refine ⟨L, .refl L, ?_⟩
      have e : isName (.str z) = false := by
        have c2 := str_empty.mp (V.str.inj c1)
        show nameS z = false
        unfold nameS
        rw [decide_eq_false (show ¬ 1 ≤ z.length by omega)]
        simp
      rw [e] at k
      exact k
    · w_means
      have c2 : z.length ≠ 0 := fun e => c1 (by rw [str_empty.mpr e])
      refine wc_lenX (line_le (Nat.le_trans hz (by decide))) ?_
      w_means
      refine ite_dec (fun c3 => ?_) (fun c3 => ?_)
      · w_means
        refine ⟨L, .refl L, ?_⟩
        have e : isName (.str z) = false := by
          show nameS z = false
          unfold nameS
          rw [decide_eq_false (show ¬ z.length ≤ 12 by omega)]
          simp
        rw [e] at k
        exact k
      · w_means
        refine wps_forS (wpe_var rfl ⟨z, rfl, fun i σ' L' => (∃ v : Option V, σ' = [some (.str z), v]) ∧ L' = L ∧ (z.cps.toList.take i).all (fun c => decide (c ∈ letters)) = true, ?_, ?_, ?_⟩)
        · exact .of ⟨⟨none, rfl⟩, rfl, rfl⟩
        · rintro i σ' L' c hc ⟨⟨v, rfl⟩, rfl, ha⟩
          w_means
          refine ite_b (fun c4 => ?_) (fun c4 => ?_)
          · w_means
            refine ⟨_, .refl _, ?_⟩
            have c5 : decide (c ∈ letters) = false := not_t c4
            have e : isName (.str z) = false := by
              show nameS z = false
              unfold nameS lowS
              rw [all_not (p := fun c => decide (c ∈ letters)) hc c5]
              simp
            rw [e] at k
            exact k
          · w_means
            have c5 : decide (c ∈ letters) = true := not_f c4
            exact .of ⟨⟨_, rfl⟩, rfl, all_take ha hc c5⟩
        · rintro σ' L' ⟨⟨v, rfl⟩, rfl, ha⟩
          w_means
          refine ⟨_, .refl _, ?_⟩
          rw [← len_one, List.take_length] at ha
          have e : isName (.str z) = true := by
            show nameS z = true
            unfold nameS lowS
            rw [ha, decide_eq_true (show z.length ≤ 12 by omega), decide_eq_true (show 1 ≤ z.length by omega)]
            rfl
          rw [e] at k
          exact k
  | _ =>
    w_means
    exact ⟨L, .refl L, k⟩
def N_is_whole : List Str := ["thing"]
theorem sc_is_whole : FnScope N_is_whole ["thing"] (defScope s_is_whole) := ⟨rfl, rfl, rfl, by decide +kernel, rfl, by decide +kernel, by decide +kernel⟩
theorem ok_is_whole (T : TT K mg) : Ok P w K mg base 1 (He.ga K "is_whole") B_whole := by
  refine ok_of (d := d_is_whole) (N := N_is_whole) (ps := ["thing"]) T.toTx 0 rfl rfl rfl sc_is_whole (fun _ _ _ _ _ _ us hl => match us, hl with | [_], _ => rfl) (fun _ _ _ _ h => by obtain ⟨_, _, e, _⟩ := h; rw [e]; rfl) (fun cdv A outer s H vs L E Kv KE hr hE hB => ?_)
  obtain ⟨x, t, rfl, ht, k⟩ := hB
  refine ⟨_, (pss_one (ps_ret (pe_and (pe_callB call_isi (by rfl) (T.free 74) (by decide +kernel) (pa_cons (pv 0) (pa_cons (pe_bltn (v := .ty "int") (by rfl) (T.free 73) (by decide +kernel) rfl) pa_nil))) (pe_one (pe_not (pe_callB call_isi (by rfl) (T.free 74) (by decide +kernel) (pa_cons (pv 0) (pa_cons (pe_bltn (v := .ty "bool") (by rfl) (T.free 72) (by decide +kernel) rfl) pa_nil)))))))), ?_⟩
  w_means
  refine wc_isi ht.kd ht.kint ?_
  w_means
  refine ite_b (fun c => ?_) (fun c => ?_)
  · w_means
    refine wc_isi ht.kd ht.kbool ?_
    w_means
    rw [whole_eq x c]
    exact ⟨L, .refl L, k⟩
  · rw [whole_no x c]
    exact ⟨L, .refl L, k⟩
def N__law_whole : List Str := ["_law_found"]
theorem sc__law_whole : FnScope N__law_whole ["_law_found"] (defScope s__law_whole) := ⟨rfl, rfl, rfl, by decide +kernel, rfl, by decide +kernel, by decide +kernel⟩
theorem ok__law_whole (T : TT K mg) : Ok P w K mg base 1 (He.ga K "_law_whole") B_whole := by
  refine ok_of (d := d__law_whole) (N := N__law_whole) (ps := ["_law_found"]) T.toTx 18 rfl rfl rfl sc__law_whole (fun _ _ _ _ _ _ us hl => match us, hl with | [_], _ => rfl) (fun _ _ _ _ h => by obtain ⟨_, _, e, _⟩ := h; rw [e]; rfl) (fun cdv A outer s H vs L E Kv KE hr hE hB => ?_)
  obtain ⟨x, t, rfl, ht, k⟩ := hB
  refine ⟨_, (pss_one (ps_ret (pe_and (pe_callB call_isi (by rfl) (T.free 74) (by decide +kernel) (pa_cons (pv 0) (pa_cons (pe_bltn (v := .ty "int") (by rfl) (T.free 73) (by decide +kernel) rfl) pa_nil))) (pe_one (pe_not (pe_callB call_isi (by rfl) (T.free 74) (by decide +kernel) (pa_cons (pv 0) (pa_cons (pe_bltn (v := .ty "bool") (by rfl) (T.free 72) (by decide +kernel) rfl) pa_nil)))))))), ?_⟩
  w_means
  refine wc_isi ht.kd ht.kint ?_
  w_means
  refine ite_b (fun c => ?_) (fun c => ?_)
  · w_means
    refine wc_isi ht.kd ht.kbool ?_
    w_means
    rw [whole_eq x c]
    exact ⟨L, .refl L, k⟩
  · rw [whole_no x c]
    exact ⟨L, .refl L, k⟩
def N_name_of : List Str := ["thing", "sign"]
theorem sc_name_of : FnScope N_name_of ["thing"] (defScope s_name_of) := ⟨rfl, rfl, rfl, by decide +kernel, rfl, by decide +kernel, by decide +kernel⟩
theorem ok_name_of (T : TT K mg) : Ok P w K mg base 1 (He.ga K "name_of") (B_name K) := by
  refine ok_of (d := d_name_of) (N := N_name_of) (ps := ["thing"]) T.toTx 1 rfl rfl rfl sc_name_of (fun _ _ _ _ _ _ us hl => match us, hl with | [_], _ => rfl) (fun _ _ _ _ h => by obtain ⟨_, _, e, _⟩ := h; rw [e]; rfl) (fun cdv A outer s H vs L E Kv KE hr hE hB => ?_)
  obtain ⟨x, t, rfl, ht, hz, k1, k2⟩ := hB
  refine ⟨_, (pss_cons (ps_if (PW.pt (pw_or (pt_not (pt_val (pe_callB call_isi (by rfl) (T.free 74) (by decide +kernel) (pa_cons (pv 0) (pa_cons (pe_bltn (v := .ty "str") (by rfl) (T.free 79) (by decide +kernel) rfl) pa_nil))))) (pw_or1 (pt_not (pt_chain op_le op_le pe_int (pe_callB cr_lenX (by rfl) (T.free 75) (by decide +kernel) (pa_cons (pv 0) pa_nil)) (pei_glob (by rfl) (T.int 67))))))) (pss_one (ps_rz (takes_of rfl rfl rfl rfl) (T.glo 46) (T.exc 47))) pss_nil)
      (pss_cons (ps_for (passes_of rfl) rfl (pi_str (pv 0)) (pg_name (i := 1) sc_name_of.nd rfl (Or.inl rfl))
      (pss_one (ps_if (pt_cmpR op_notInS (pv 1) (pes_glob (by rfl) (T.str 66)) (by rfl)) (pss_one (ps_rz (takes_of rfl rfl rfl rfl) (T.glo 46) (T.exc 47))) pss_nil)))
      (pss_one (ps_ret (pv 0))))), ?_⟩
  w_means
  refine wc_isi ht.kd ht.kstr ?_
  cases x with
  | str z =>
    w_means
    refine wc_lenX (line_le (Nat.le_trans hz (by decide))) ?_
    w_means
    refine ite_dec (fun c1 => ?_) (fun c1 => ?_)
    · w_means
      refine ite_b (fun c2 => ?_) (fun c2 => ?_)
      · refine wps_raise hE ⟨L, .refl L, k2 ?_⟩
        have c3 : ¬ (z.length : Int) ≤ 12 := by simpa using c2
        show nameS z = false
        unfold nameS
        rw [decide_eq_false (show ¬ z.length ≤ 12 by omega)]
        simp
      · w_means
        have c3 : (z.length : Int) ≤ 12 := by simpa using c2
        refine wps_forS (wpe_var rfl ⟨z, rfl, fun i σ' L' => (∃ v : Option V, σ' = [some (.str z), v]) ∧ L' = L ∧ (z.cps.toList.take i).all (fun c => decide (c ∈ letters)) = true, ?_, ?_, ?_⟩)
        · exact .of ⟨⟨none, rfl⟩, rfl, rfl⟩
        · rintro i σ' L' c hc ⟨⟨v, rfl⟩, rfl, ha⟩
          w_means
          refine ite_b (fun c4 => ?_) (fun c4 => ?_)
          · refine wps_raise hE ⟨_, .refl _, k2 ?_⟩
            have c5 : decide (c ∈ letters) = false := not_t c4
            show nameS z = false
            unfold nameS lowS
            rw [all_not (p := fun c => decide (c ∈ letters)) hc c5]
            simp
          · w_means
            have c5 : decide (c ∈ letters) = true := not_f c4
            exact .of ⟨⟨_, rfl⟩, rfl, all_take ha hc c5⟩
        · rintro σ' L' ⟨⟨v, rfl⟩, rfl, ha⟩
          w_means
          refine ⟨_, .refl _, k1 ?_⟩
          rw [← len_one, List.take_length] at ha
          show nameS z = true
          unfold nameS lowS
          rw [ha, decide_eq_true (show z.length ≤ 12 by omega), decide_eq_true (show 1 ≤ z.length by omega)]
          rfl
    · w_means
      refine wps_raise hE ⟨L, .refl L, k2 ?_⟩
      show nameS z = false
      unfold nameS
      rw [decide_eq_false (show ¬ 1 ≤ z.length by omega)]
      simp
  | _ =>
    w_means
    exact wps_raise hE ⟨L, .refl L, k2 rfl⟩
def N_amount_of : List Str := ["thing"]
theorem sc_amount_of : FnScope N_amount_of ["thing"] (defScope s_amount_of) := ⟨rfl, rfl, rfl, by decide +kernel, rfl, by decide +kernel, by decide +kernel⟩
theorem ok_amount_of (T : TT K mg) : Ok P w K mg base 2 (He.ga K "amount_of") (B_amount K) := by
  refine ok_of (d := d_amount_of) (N := N_amount_of) (ps := ["thing"]) T.toTx 2 rfl rfl rfl sc_amount_of (fun _ _ _ _ _ _ us hl => match us, hl with | [_], _ => rfl) (fun _ _ _ _ h => by obtain ⟨_, _, e, _⟩ := h; rw [e]; rfl) (fun cdv A outer s H vs L E Kv KE hr hE hB => ?_)
  obtain ⟨x, t, rfl, ht, k1, k2⟩ := hB
  refine ⟨_, (pss_cons (ps_if (PW.pt (pw_or (pt_not (pt_val (pe_callF (ok_is_whole T) (hr.mono (by decide)) (T.glo 0) (fun σ => passAt0 σ) (pa_cons (pv 0) pa_nil)))) (pw_or1 (pt_not (pt_chain op_le op_le pe_int (pv 0) (pei_glob (by rfl) (T.int 68))))))) (pss_one (ps_rz (takes_of rfl rfl rfl rfl) (T.glo 48) (T.exc 49))) pss_nil)
      (pss_one (ps_ret (pv 0)))), ?_⟩
  w_means
  refine wpf_spc ⟨x, t, rfl, ht, ?_⟩
  cases x with
  | int n =>
    w_means
    refine ite_dec (fun c1 => ?_) (fun c1 => ?_)
    · w_means
      refine ite_b (fun c2 => ?_) (fun c2 => ?_)
      · refine wps_raise hE ⟨L, .refl L, k2 (amt_no fun z => ?_)⟩
        have c3 : ¬ n ≤ 10 ^ 30 := by simpa using c2
        exact c3 z.2
      · w_means
        have c3 : n ≤ 10 ^ 30 := by simpa using c2
        exact ⟨L, .refl L, k1 (amt_int c1 c3)⟩
    · w_means
      exact wps_raise hE ⟨L, .refl L, k2 (amt_no fun z => c1 z.1)⟩
  | _ =>
    w_means
    exact wps_raise hE ⟨L, .refl L, k2 rfl⟩
def N_Book___init__ : List Str := ["self"]
theorem sc_Book___init__ : FnScope N_Book___init__ ["self"] (defScope s_Book___init__) := ⟨rfl, rfl, rfl, by decide +kernel, rfl, by decide +kernel, by decide +kernel⟩
theorem ok_Book___init__ (T : TT K mg) : Ok P w K mg base 1 (He.ma K (He.ga K "Book") "__init__") (B_binit K) := by
  refine ok_of (d := d_Book___init__) (N := N_Book___init__) (ps := ["self"]) T.toTx 8 rfl rfl rfl sc_Book___init__ (fun _ _ _ _ _ _ us hl => match us, hl with | [_], _ => rfl) (fun _ _ _ _ h => by obtain ⟨_, _, _, e, _⟩ := h; rw [e]; rfl) (fun cdv A outer s H vs L E Kv KE hr hE hB => ?_)
  obtain ⟨b, dx, L0, rfl, rfl, k⟩ := hB
  refine ⟨_, (pss_cons (ps_fld (pv 0) pe_int rfl)
      (pss_cons (ps_fld (pv 0) pe_dnewK rfl)
      (pss_cons (ps_fld (pv 0) pe_dnewK rfl)
      (pss_one (ps_fld (pv 0) pe_dnewK rfl))))), ?_⟩
  w_means
  refine wps_fld ?_
  w_means
  refine ⟨b, _, dx, _, _, rfl, (T.cls 30), (T.noat 32), by decide, .here, ?_⟩
  w_means
  refine wps_fld ?_
  w_means
  intro pf
  w_means
  refine ⟨b, _, dx, _, _, rfl, (T.cls 30), (T.noat 33), by show 1 < 1000; decide, .there .here, ?_⟩
  w_means
  refine wps_fld ?_
  w_means
  intro pa
  w_means
  refine ⟨b, _, dx, _, _, rfl, (T.cls 30), (T.noat 34), by show 2 < 1000; decide, .there (.there .here), ?_⟩
  w_means
  refine wps_fld ?_
  w_means
  intro pp
  w_means
  refine ⟨b, _, dx, _, _, rfl, (T.cls 30), (T.noat 35), by show 3 < 1000; decide, .there (.there (.there .here)), ?_⟩
  exact ⟨_, .refl _, k pf pa pp⟩
def N_Book_need_purse : List Str := ["self", "purse"]
theorem sc_Book_need_purse : FnScope N_Book_need_purse ["self", "purse"] (defScope s_Book_need_purse) := ⟨rfl, rfl, rfl, by decide +kernel, rfl, by decide +kernel, by decide +kernel⟩
theorem ok_Book_need_purse (T : TT K mg) : Ok P w K mg base 1 (He.ma K (He.ga K "Book") "need_purse") (B_needp K) := by
  refine ok_of (d := d_Book_need_purse) (N := N_Book_need_purse) (ps := ["self", "purse"]) T.toTx 10 rfl rfl rfl sc_Book_need_purse (fun _ _ _ _ _ _ us hl => match us, hl with | [_, _], _ => rfl) (fun _ _ _ _ h => by obtain ⟨_, _, _, _, _, _, _, _, e, _⟩ := h; rw [e]; rfl) (fun cdv A outer s H vs L E Kv KE hr hE hB => ?_)
  obtain ⟨b, x, t, d, pf, pa, pp, l, rfl, hb, hd, ht, k1, k2⟩ := hB
  refine ⟨_, (pss_one (ps_if (PW.pt (pw_or (pt_not (pt_val (pe_callB call_isi (by rfl) (T.free 74) (by decide +kernel) (pa_cons (pv 1) (pa_cons (pe_bltn (v := .ty "str") (by rfl) (T.free 79) (by decide +kernel) rfl) pa_nil))))) (pw_or1 (pt_cmp (pc_dnotin (hu_of hr) (pv 1) (pe_fld (pv 0) rfl)))))) (pss_one (ps_rz (takes_of rfl rfl rfl rfl) (T.glo 52) (T.exc 53))) pss_nil)), ?_⟩
  w_means
  refine wc_isi ht.kd ht.kstr ?_
  cases x with
  | str z =>
    w_means
    refine wpe_dnotin ?_
    w_means
    refine wpe_bf hb (T.cls 30) (T.noat 33) rfl rfl ?_
    refine ⟨pf, kvI l, .inr z, rfl, rfl, hd, ?_⟩
    rw [kvI_val, Option.isSome_map]
    w_means
    refine ite_b (fun c => ?_) (fun c => ?_)
    · exact wps_raise hE ⟨L, .refl L, k2 (not_t c)⟩
    · w_means
      exact ⟨L, .refl L, k1 (not_f c)⟩
  | _ =>
    w_means
    exact wps_raise hE ⟨L, .refl L, k2 rfl⟩
def N_Book_put : List Str := ["self", "purse", "amount"]
theorem sc_Book_put : FnScope N_Book_put ["self", "purse", "amount"] (defScope s_Book_put) := ⟨rfl, rfl, rfl, by decide +kernel, rfl, by decide +kernel, by decide +kernel⟩
theorem ok_Book_put (T : TT K mg) : Ok P w K mg base 3 (He.ma K (He.ga K "Book") "put") (B_put K) := by
  refine ok_of (d := d_Book_put) (N := N_Book_put) (ps := ["self", "purse", "amount"]) T.toTx 11 rfl rfl rfl sc_Book_put (fun _ _ _ _ _ _ us hl => match us, hl with | [_, _, _], _ => rfl) (fun _ _ _ _ h => by obtain ⟨_, _, _, _, _, _, _, _, _, _, e, _⟩ := h; rw [e]; rfl) (fun cdv A outer s H vs L E Kv KE hr hE hB => ?_)
  obtain ⟨b, x, y, t, u, d, pf, pa, pp, l, rfl, hb, hd, hl, ht, hu, k1, k2, k3⟩ := hB
  refine ⟨_, (pss_cons (ps_expr (pe_methF (pv 0) (T.cls 30) (T.meth 37) (ok_Book_need_purse T) (hr.mono (by decide)) (fun σ => passAt (takes_of rfl rfl rfl rfl) σ) (pa_cons (pv 1) pa_nil)))
      (pss_one (ps_dput (hu_of hr) (pe_fld (pv 0) rfl) (pv 1) (pe_op op_add (pe_dget (hu_of hr) (pe_fld (pv 0) rfl) (pv 1) (fun _ _ => rfl)) (pe_callF (ok_amount_of T) (hr.mono (by decide)) (T.glo 2) (fun σ => passAt (takes_of rfl rfl rfl rfl) σ) (pa_cons (pv 2) pa_nil))) rfl))), ?_⟩
  w_means
  refine wpe_methE hE ?_
  w_means
  refine ⟨b, rfl, hb.is _, ?_⟩
  w_means
  refine wpf_spc ⟨b, x, t, d, pf, pa, pp, l, rfl, hb, .inl hd, ht, fun c => ?_, fun c => ⟨_, .refl _, k1 c⟩⟩
  obtain ⟨z, v, rfl, hv⟩ := isPu_some c
  w_means
  refine wps_dput ?_
  w_means
  refine wpe_dget ?_
  w_means
  refine wpe_bf hb (T.cls 30) (T.noat 33) rfl rfl ?_
  w_means
  refine ⟨pf, kvI l, .inr z, .int v, rfl, rfl, .inl hd, by rw [kvI_val, hv]; rfl, ?_⟩
  w_means
  refine wpf_spc ⟨y, u, rfl, hu, fun ca => ?_, fun ca => ⟨_, .refl _, k2 c ca⟩⟩
  obtain ⟨n, rfl, _⟩ := amt_some ca
  w_means
  refine wpe_bf hb (T.cls 30) (T.noat 33) rfl rfl ?_
  w_means
  obtain ⟨L1, up, k⟩ := k3 z v n rfl hv rfl ca
  refine ⟨pf, kvI l, .inr z, L1, rfl, rfl, by rw [kvI_len]; exact line_lt (by omega), by rw [kvI_put]; exact up, ?_⟩
  exact ⟨_, .refl _, k⟩
def N_Book_take : List Str := ["self", "purse", "amount"]
theorem sc_Book_take : FnScope N_Book_take ["self", "purse", "amount"] (defScope s_Book_take) := ⟨rfl, rfl, rfl, by decide +kernel, rfl, by decide +kernel, by decide +kernel⟩
theorem ok_Book_take (T : TT K mg) : Ok P w K mg base 3 (He.ma K (He.ga K "Book") "take") (B_take K) := by
  refine ok_of (d := d_Book_take) (N := N_Book_take) (ps := ["self", "purse", "amount"]) T.toTx 12 rfl rfl rfl sc_Book_take (fun _ _ _ _ _ _ us hl => match us, hl with | [_, _, _], _ => rfl) (fun _ _ _ _ h => by obtain ⟨_, _, _, _, _, _, _, _, _, _, e, _⟩ := h; rw [e]; rfl) (fun cdv A outer s H vs L E Kv KE hr hE hB => ?_)
  obtain ⟨b, x, y, t, u, d, pf, pa, pp, l, rfl, hb, hd, hl, ht, hu, k1, k2, k3, k4⟩ := hB
  refine ⟨_, (pss_cons (ps_expr (pe_methF (pv 0) (T.cls 30) (T.meth 37) (ok_Book_need_purse T) (hr.mono (by decide)) (fun σ => passAt (takes_of rfl rfl rfl rfl) σ) (pa_cons (pv 1) pa_nil)))
      (pss_cons (ps_if (pt_cmpR op_gt (pe_callF (ok_amount_of T) (hr.mono (by decide)) (T.glo 2) (fun σ => passAt (takes_of rfl rfl rfl rfl) σ) (pa_cons (pv 2) pa_nil)) (pe_dget (hu_of hr) (pe_fld (pv 0) rfl) (pv 1) (fun _ _ => rfl)) (nomark _)) (pss_one (ps_rz (takes_of rfl rfl rfl rfl) (T.glo 54) (T.exc 55))) pss_nil)
      (pss_one (ps_dput (hu_of hr) (pe_fld (pv 0) rfl) (pv 1) (pe_op op_sub (pe_dget (hu_of hr) (pe_fld (pv 0) rfl) (pv 1) (fun _ _ => rfl)) (pv 2)) rfl)))), ?_⟩
  w_means
  refine wpe_methE hE ?_
  w_means
  refine ⟨b, rfl, hb.is _, ?_⟩
  w_means
  refine wpf_spc ⟨b, x, t, d, pf, pa, pp, l, rfl, hb, .inl hd, ht, fun c => ?_, fun c => ⟨_, .refl _, k1 c⟩⟩
  obtain ⟨z, v, rfl, hv⟩ := isPu_some c
  w_means
  refine wpf_spc ⟨y, u, rfl, hu, fun ca => ?_, fun ca => ⟨_, .refl _, k2 c ca⟩⟩
  obtain ⟨n, rfl, _⟩ := amt_some ca
  w_means
  refine wpe_dget ?_
  w_means
  refine wpe_bf hb (T.cls 30) (T.noat 33) rfl rfl ?_
  w_means
  refine ⟨pf, kvI l, .inr z, .int v, rfl, rfl, .inl hd, by rw [kvI_val, hv]; rfl, ?_⟩
  w_means
  refine ite_dec (fun c1 => ?_) (fun c1 => ?_)
  · exact wps_raise hE ⟨L, .refl L, k3 z v n rfl hv rfl ca c1⟩
  w_means
  refine wps_dput ?_
  w_means
  refine wpe_dget ?_
  w_means
  refine wpe_bf hb (T.cls 30) (T.noat 33) rfl rfl ?_
  w_means
  refine ⟨pf, kvI l, .inr z, .int v, rfl, rfl, .inl hd, by rw [kvI_val, hv]; rfl, ?_⟩
  w_means
  refine wpe_bf hb (T.cls 30) (T.noat 33) rfl rfl ?_
  w_means
  obtain ⟨L1, up, k⟩ := k4 z v n rfl hv rfl ca c1
  refine ⟨pf, kvI l, .inr z, L1, rfl, rfl, by rw [kvI_len]; exact line_lt (by omega), by rw [kvI_put]; exact up, ?_⟩
  exact ⟨_, .refl _, k⟩
def N_Book_open_purse : List Str := ["self", "name"]
theorem sc_Book_open_purse : FnScope N_Book_open_purse ["self", "name"] (defScope s_Book_open_purse) := ⟨rfl, rfl, rfl, by decide +kernel, rfl, by decide +kernel, by decide +kernel⟩
theorem ok_Book_open_purse (T : TT K mg) : Ok P w K mg base 3 (He.ma K (He.ga K "Book") "open_purse") (B_open K) := by
  refine ok_of (d := d_Book_open_purse) (N := N_Book_open_purse) (ps := ["self", "name"]) T.toTx 9 rfl rfl rfl sc_Book_open_purse (fun _ _ _ _ _ _ us hl => match us, hl with | [_, _], _ => rfl) (fun _ _ _ _ h => by obtain ⟨_, _, _, _, _, _, _, _, _, e, _⟩ := h; rw [e]; rfl) (fun cdv A outer s H vs L E Kv KE hr hE hB => ?_)
  obtain ⟨b, x, t, d, pf, pa, pp, l, m, rfl, hb, hd, hda, hl, hm, ht, hz, k1, k2, k3⟩ := hB
  refine ⟨_, (pss_cons (ps_if (pt_cmp (pc_din (hu_of hr) (pe_callF (ok_name_of T) (hr.mono (by decide)) (T.glo 1) (fun σ => passAt (takes_of rfl rfl rfl rfl) σ) (pa_cons (pv 1) pa_nil)) (pe_fld (pv 0) rfl))) (pss_one (ps_rz (takes_of rfl rfl rfl rfl) (T.glo 50) (T.exc 51))) pss_nil)
      (pss_cons (ps_dput (hu_of hr) (pe_fld (pv 0) rfl) (pv 1) pe_int rfl)
      (pss_one (ps_dput (hu_of hr) (pe_fld (pv 0) rfl) (pv 1) pe_int rfl)))), ?_⟩
  w_means
  refine wpe_din ?_
  w_means
  refine wpf_spc ⟨x, t, rfl, ht, hz, fun cn => ?_, fun cn => ⟨_, .refl _, k1 cn⟩⟩
  obtain ⟨z, rfl, hn⟩ := isName_some cn
  w_means
  refine wpe_bf hb (T.cls 30) (T.noat 33) rfl rfl ?_
  refine ⟨pf, kvI l, .inr z, rfl, rfl, .inl hd, ?_⟩
  rw [kvI_val, Option.isSome_map]
  w_means
  refine ite_b (fun c => ?_) (fun c => ?_)
  · exact wps_raise hE ⟨L, .refl L, k2 cn c⟩
  have c' : getI l z = none := by
    cases e : getI l z with
    | none => rfl
    | some v => rw [e] at c; cases c
  obtain ⟨L1, L2, up1, up2, hb2, k⟩ := k3 z rfl hn c'
  w_means
  refine wps_dput ?_
  w_means
  refine wpe_bf hb (T.cls 30) (T.noat 33) rfl rfl ?_
  w_means
  refine ⟨pf, kvI l, .inr z, L1, rfl, rfl, by rw [kvI_len]; exact line_lt (by omega), by rw [kvI_put]; exact up1, ?_⟩
  w_means
  refine wps_dput ?_
  w_means
  refine wpe_bf hb2 (T.cls 30) (T.noat 34) rfl rfl ?_
  w_means
  refine ⟨pa, kvI m, .inr z, L2, rfl, rfl, by rw [kvI_len]; exact line_lt (by omega), by rw [kvI_put]; exact up2, ?_⟩
  exact ⟨_, .refl _, k⟩
def N_Book_free_of : List Str := ["self", "purse"]
theorem sc_Book_free_of : FnScope N_Book_free_of ["self", "purse"] (defScope s_Book_free_of) := ⟨rfl, rfl, rfl, by decide +kernel, rfl, by decide +kernel, by decide +kernel⟩
theorem ok_Book_free_of (T : TT K mg) : Ok P w K mg base 2 (He.ma K (He.ga K "Book") "free_of") (B_freeof K) := by
  refine ok_of (d := d_Book_free_of) (N := N_Book_free_of) (ps := ["self", "purse"]) T.toTx 16 rfl rfl rfl sc_Book_free_of (fun _ _ _ _ _ _ us hl => match us, hl with | [_, _], _ => rfl) (fun _ _ _ _ h => by obtain ⟨_, _, _, _, _, _, _, _, e, _⟩ := h; rw [e]; rfl) (fun cdv A outer s H vs L E Kv KE hr hE hB => ?_)
  obtain ⟨b, x, t, d, pf, pa, pp, l, rfl, hb, hd, ht, k1, k2⟩ := hB
  refine ⟨_, (pss_cons (ps_expr (pe_methF (pv 0) (T.cls 30) (T.meth 37) (ok_Book_need_purse T) (hr.mono (by decide)) (fun σ => passAt (takes_of rfl rfl rfl rfl) σ) (pa_cons (pv 1) pa_nil)))
      (pss_one (ps_ret (pe_dget (hu_of hr) (pe_fld (pv 0) rfl) (pv 1) (fun _ _ => rfl))))), ?_⟩
  w_means
  refine wpe_methE hE ?_
  w_means
  refine ⟨b, rfl, hb.is _, ?_⟩
  w_means
  refine wpf_spc ⟨b, x, t, d, pf, pa, pp, l, rfl, hb, hd, ht, fun c => ?_, fun c => ⟨_, .refl _, k1 c⟩⟩
  obtain ⟨z, v, rfl, hv⟩ := isPu_some c
  w_means
  refine wpe_dget ?_
  w_means
  refine wpe_bf hb (T.cls 30) (T.noat 33) rfl rfl ?_
  w_means
  refine ⟨pf, kvI l, .inr z, .int v, rfl, rfl, hd, by rw [kvI_val, hv]; rfl, ?_⟩
  exact ⟨_, .refl _, k2 z v rfl hv⟩
def N_Book_aside_of : List Str := ["self", "purse"]
theorem sc_Book_aside_of : FnScope N_Book_aside_of ["self", "purse"] (defScope s_Book_aside_of) := ⟨rfl, rfl, rfl, by decide +kernel, rfl, by decide +kernel, by decide +kernel⟩
theorem ok_Book_aside_of (T : TT K mg) : Ok P w K mg base 2 (He.ma K (He.ga K "Book") "aside_of") (B_asideof K) := by
  refine ok_of (d := d_Book_aside_of) (N := N_Book_aside_of) (ps := ["self", "purse"]) T.toTx 17 rfl rfl rfl sc_Book_aside_of (fun _ _ _ _ _ _ us hl => match us, hl with | [_, _], _ => rfl) (fun _ _ _ _ h => by obtain ⟨_, _, _, _, _, _, _, _, _, e, _⟩ := h; rw [e]; rfl) (fun cdv A outer s H vs L E Kv KE hr hE hB => ?_)
  obtain ⟨b, x, t, d, pf, pa, pp, l, m, rfl, hb, hd, hda, ht, k1, k2⟩ := hB
  refine ⟨_, (pss_cons (ps_expr (pe_methF (pv 0) (T.cls 30) (T.meth 37) (ok_Book_need_purse T) (hr.mono (by decide)) (fun σ => passAt (takes_of rfl rfl rfl rfl) σ) (pa_cons (pv 1) pa_nil)))
      (pss_one (ps_ret (pe_dget (hu_of hr) (pe_fld (pv 0) rfl) (pv 1) (fun _ _ => rfl))))), ?_⟩
  w_means
  refine wpe_methE hE ?_
  w_means
  refine ⟨b, rfl, hb.is _, ?_⟩
  w_means
  refine wpf_spc ⟨b, x, t, d, pf, pa, pp, l, rfl, hb, hd, ht, fun c => ?_, fun c => ⟨_, .refl _, k1 c⟩⟩
  obtain ⟨z, v, rfl, hv⟩ := isPu_some c
  w_means
  obtain ⟨v2, hv2, k⟩ := k2 z rfl c
  refine wpe_dget ?_
  w_means
  refine wpe_bf hb (T.cls 30) (T.noat 34) rfl rfl ?_
  w_means
  refine ⟨pa, kvI m, .inr z, .int v2, rfl, rfl, hda, by rw [kvI_val, hv2]; rfl, ?_⟩
  exact ⟨_, .refl _, k⟩
def N_Book_purses : List Str := ["self"]
theorem sc_Book_purses : FnScope N_Book_purses ["self"] (defScope s_Book_purses) := ⟨rfl, rfl, rfl, by decide +kernel, rfl, by decide +kernel, by decide +kernel⟩
theorem ok_Book_purses (T : TT K mg) : Ok P w K mg base 1 (He.ma K (He.ga K "Book") "purses") (B_purses K) := by
  refine ok_of (d := d_Book_purses) (N := N_Book_purses) (ps := ["self"]) T.toTx 14 rfl rfl rfl sc_Book_purses (fun _ _ _ _ _ _ us hl => match us, hl with | [_], _ => rfl) (fun _ _ _ _ h => by obtain ⟨_, _, _, _, _, _, e, _⟩ := h; rw [e]; rfl) (fun cdv A outer s H vs L E Kv KE hr hE hB => ?_)
  obtain ⟨b, d, pf, pa, pp, l, rfl, hb, hd, k⟩ := hB
  refine ⟨_, (pss_one (ps_ret (pe_callTy (call_list_dK rfl) (by rfl) (T.free 76) (by decide +kernel) (pa_cons (pe_fld (pv 0) rfl) pa_nil)))), ?_⟩
  w_means
  refine wpe_bf hb (T.cls 30) (T.noat 33) rfl rfl ?_
  w_means
  refine wc_listD hd fun p => ?_
  rw [kvI_keys]
  exact ⟨_, .refl _, k p⟩
def N_Book_told : List Str := ["self"]
theorem sc_Book_told : FnScope N_Book_told ["self"] (defScope s_Book_told) := ⟨rfl, rfl, rfl, by decide +kernel, rfl, by decide +kernel, by decide +kernel⟩
theorem ok_Book_told (T : TT K mg) : Ok P w K mg base 1 (He.ma K (He.ga K "Book") "told") (B_told K) := by
  refine ok_of (d := d_Book_told) (N := N_Book_told) (ps := ["self"]) T.toTx 15 rfl rfl rfl sc_Book_told (fun _ _ _ _ _ _ us hl => match us, hl with | [_], _ => rfl) (fun _ _ _ _ h => by obtain ⟨_, _, _, _, _, _, e, _⟩ := h; rw [e]; rfl) (fun cdv A outer s H vs L E Kv KE hr hE hB => ?_)
  obtain ⟨b, d, pf, pa, pp, kvs, rfl, hb, hd, k⟩ := hB
  refine ⟨_, (pss_one (ps_ret (pe_callTy (call_list_dK rfl) (by rfl) (T.free 76) (by decide +kernel) (pa_cons (pe_fld (pv 0) rfl) pa_nil)))), ?_⟩
  w_means
  refine wpe_bf hb (T.cls 30) (T.noat 35) rfl rfl ?_
  w_means
  refine wc_listD hd fun p => ?_
  exact ⟨_, .refl _, k p⟩
def N__law_told : List Str := ["_law_book", "_law_way", "_law_purse", "_law_amount", "_law_told_here"]
theorem sc__law_told : FnScope N__law_told ["_law_book", "_law_way", "_law_purse", "_law_amount"] (defScope s__law_told) := ⟨rfl, rfl, rfl, by decide +kernel, rfl, by decide +kernel, by decide +kernel⟩
theorem ok__law_told (T : TT K mg) : Ok P w K mg base 4 (He.ga K "_law_told") (B_told7 K) := by
  refine ok_of (d := d__law_told) (N := N__law_told) (ps := ["_law_book", "_law_way", "_law_purse", "_law_amount"]) T.toTx 23 rfl rfl rfl sc__law_told (fun _ _ _ _ _ _ us hl => match us, hl with | [_, _, _, _], _ => rfl) (fun _ _ _ _ h => by obtain ⟨_, _, _, _, _, _, _, _, e, _⟩ := h; rw [e]; rfl) (fun cdv A outer s H vs L E Kv KE hr hE hB => ?_)
  obtain ⟨b, way, x, y, t, u, l, F, rfl, rfl, hway, hl, ht, hz, hu, k⟩ := hB
  refine ⟨_, (pss_cons (ps_tryM takes0 (fun W pn xe tk hp => (pss_one (ps_if (pt_cmpR op_eq (pv 1) pe_int (nomark _)) (pss_one (ps_set (i := 4) sc__law_told.nd rfl (Or.inl rfl) (pe_methF (pv 0) (T.cls 30) (T.meth 36) (ok_Book_open_purse T) (hr.mono (by decide)) (fun σ => passAt tk σ) (pa_cons (pv 2) pa_nil)))) (pss_one (ps_if (pt_cmpR op_eq (pv 1) pe_int (nomark _)) (pss_one (ps_set (i := 4) sc__law_told.nd rfl (Or.inl rfl) (pe_methF (pv 0) (T.cls 30) (T.meth 38) (ok_Book_put T) (hr.mono (by decide)) (fun σ => passAt tk σ) (pa_cons (pv 2) (pa_cons (pv 3) pa_nil))))) (pss_one (ps_set (i := 4) sc__law_told.nd rfl (Or.inl rfl) (pe_methF (pv 0) (T.cls 30) (T.meth 39) (ok_Book_take T) (hr.mono (by decide)) (fun σ => passAt tk σ) (pa_cons (pv 2) (pa_cons (pv 3) pa_nil)))))))))) (HdsOk.cons ⟨by rfl, by decide, .inl (T.glo 46)⟩ (fun a oe cls d pn _ _ => (pss_one (ps_ret pe_str))) (HdsOk.cons ⟨by rfl, by decide, .inl (T.glo 50)⟩ (fun a oe cls d pn _ _ => (pss_one (ps_ret pe_str))) (HdsOk.cons ⟨by rfl, by decide, .inl (T.glo 52)⟩ (fun a oe cls d pn _ _ => (pss_one (ps_ret pe_str))) (HdsOk.cons ⟨by rfl, by decide, .inl (T.glo 48)⟩ (fun a oe cls d pn _ _ => (pss_one (ps_ret pe_str))) (HdsOk.cons ⟨by rfl, by decide, .inl (T.glo 54)⟩ (fun a oe cls d pn _ _ => (pss_one (ps_ret pe_str))) HdsOk.nil))))))
      (pss_one (ps_ret (pv 4)))), ?_⟩
  refine wps_purA fun dx pf pa pp => ?_
  have hb : HasB K (cell b (.ins (He.ga K "Book") dx (bF 0 pf pa pp)) :: cell pf (.dK (kvI l)) :: cell pa (.dK (kvI (zerI l))) :: cell pp (.dK []) :: F) b 0 pf pa pp := ⟨dx, .here⟩
  have ht4 := (((ht.there (A := cell pp (.dK []))).there (A := cell pa (.dK (kvI (zerI l))))).there (A := cell pf (.dK (kvI l)))).there (A := cell b (.ins (He.ga K "Book") dx (bF 0 pf pa pp)))
  have hu4 := (((hu.there (A := cell pp (.dK []))).there (A := cell pa (.dK (kvI (zerI l))))).there (A := cell pf (.dK (kvI l)))).there (A := cell b (.ins (He.ga K "Book") dx (bF 0 pf pa pp)))
  w_means
  intro Wt hW
  w_means
  refine ite_dec (fun c => ?_) (fun c => ?_)
  · have c0 : way = 0 := V.int.inj c
    w_means
    refine wpe_methW hW ?_
    w_means
    refine ⟨b, rfl, hb.is _, ?_⟩
    w_means
    refine wpf_spc ⟨b, x, t, 0, pf, pa, pp, l, zerI l, rfl, hb, .there .here, .there (.there .here), by omega, by rw [zerI_len]; omega, ht4, hz, fun cn => ?_, fun cn cp => ?_, fun z ez hn hg => ?_⟩
    · rw [due_noname c0 cn] at k
      refine (hm_take (T.exm 81) fun a1 => ?_)
      w_means
      exact ⟨_, purA_mk, k⟩
    · rw [due_taken c0 cn cp] at k
      refine (hm_skip (T.exm 82) (hm_take (T.exm 83) fun a1 => ?_))
      w_means
      exact ⟨_, purA_mk, k⟩
    · subst ez
      rw [due_open c0 hn hg] at k
      refine ⟨_, _, .there .here, .there (.there .here), ⟨dx, .here⟩, ?_⟩
      w_means
      rw [zer_none hg]
      exact ⟨_, purA_mk, k⟩
  · have c0 : way ≠ 0 := fun e => c (by rw [e])
    w_means
    refine ite_dec (fun c1 => ?_) (fun c1 => ?_)
    · have c1 : way = 1 := V.int.inj c1
      w_means
      refine wpe_methW hW ?_
      w_means
      refine ⟨b, rfl, hb.is _, ?_⟩
      w_means
      refine wpf_spc ⟨b, x, y, t, u, 0, pf, pa, pp, l, rfl, hb, .there .here, by omega, ht4, hu4, fun cp => ?_, fun cp ca => ?_, fun z v n ez hv ey ca => ?_⟩
      · rw [due_nopurse c0 cp] at k
        refine (hm_skip (T.exm 84) (hm_skip (T.exm 85) (hm_take (T.exm 86) fun a1 => ?_)))
        w_means
        exact ⟨_, purA_mk, k⟩
      · rw [due_noamount c0 cp ca] at k
        refine (hm_skip (T.exm 87) (hm_skip (T.exm 88) (hm_skip (T.exm 89) (hm_take (T.exm 90) fun a1 => ?_))))
        w_means
        exact ⟨_, purA_mk, k⟩
      · subst ez ey
        rw [due_move c0 hv ca (by omega), c1, show v + n * (3 - 2 * 1) = v + n by omega] at k
        refine ⟨_, .there .here, ?_⟩
        w_means
        have e := zer_some (l := l) (z := z) (v := v + n) (by rw [hv]; rfl)
        rw [← e]
        exact ⟨_, purA_mk, k⟩
    · have c2 : way = 2 := by
        rcases hway with h | h | h
        · exact absurd h c0
        · exact absurd (by rw [h]) c1
        · exact h
      w_means
      refine wpe_methW hW ?_
      w_means
      refine ⟨b, rfl, hb.is _, ?_⟩
      w_means
      refine wpf_spc ⟨b, x, y, t, u, 0, pf, pa, pp, l, rfl, hb, .there .here, by omega, ht4, hu4, fun cp => ?_, fun cp ca => ?_, fun z v n ez hv ey ca hg => ?_, fun z v n ez hv ey ca hg => ?_⟩
      · rw [due_nopurse c0 cp] at k
        refine (hm_skip (T.exm 84) (hm_skip (T.exm 85) (hm_take (T.exm 86) fun a1 => ?_)))
        w_means
        exact ⟨_, purA_mk, k⟩
      · rw [due_noamount c0 cp ca] at k
        refine (hm_skip (T.exm 87) (hm_skip (T.exm 88) (hm_skip (T.exm 89) (hm_take (T.exm 90) fun a1 => ?_))))
        w_means
        exact ⟨_, purA_mk, k⟩
      · subst ez ey
        rw [due_little c2 hv ca hg] at k
        refine (hm_skip (T.exm 91) (hm_skip (T.exm 92) (hm_skip (T.exm 93) (hm_skip (T.exm 94) (hm_take (T.exm 95) fun a1 => ?_)))))
        w_means
        exact ⟨_, purA_mk, k⟩
      · subst ez ey
        rw [due_move c0 hv ca (fun h => hg h.2), c2, show v + n * (3 - 2 * 2) = v - n by omega] at k
        refine ⟨_, .there .here, ?_⟩
        w_means
        have e := zer_some (l := l) (z := z) (v := v - n) (by rw [hv]; rfl)
        rw [← e]
        exact ⟨_, purA_mk, k⟩
def N__law_due : List Str := ["_law_free", "_law_way", "_law_purse", "_law_amount"]
theorem sc__law_due : FnScope N__law_due ["_law_free", "_law_way", "_law_purse", "_law_amount"] (defScope s__law_due) := ⟨rfl, rfl, rfl, by decide +kernel, rfl, by decide +kernel, by decide +kernel⟩
theorem ok__law_due (T : TT K mg) : Ok P w K mg base 2 (He.ga K "_law_due") B_due7 := by
  refine ok_of (d := d__law_due) (N := N__law_due) (ps := ["_law_free", "_law_way", "_law_purse", "_law_amount"]) T.toTx 24 rfl rfl rfl sc__law_due (fun _ _ _ _ _ _ us hl => match us, hl with | [_, _, _, _], _ => rfl) (fun _ _ _ _ h => by obtain ⟨_, _, _, _, _, _, _, _, e, _⟩ := h; rw [e]; rfl) (fun cdv A outer s H vs L E Kv KE hr hE hB => ?_)
  obtain ⟨d, way, x, y, t, u, l, F, rfl, rfl, hway, hl, ht, hz, hu, k⟩ := hB
  refine ⟨_, (pss_cons (ps_if (pt_cmpR op_eq (pv 1) pe_int (nomark _)) (pss_cons (ps_if (pt_not (pt_val (pe_callF (ok__law_is_name T) (hr.mono (by decide)) (T.glo 11) (fun σ => passAt0 σ) (pa_cons (pv 2) pa_nil)))) (pss_one (ps_ret pe_str)) pss_nil)
      (pss_cons (ps_if (pt_cmp (pc_din (hu_of hr) (pv 2) (pv 0))) (pss_one (ps_ret pe_str)) pss_nil)
      (pss_cons (ps_dput (hu_of hr) (pv 0) (pv 2) pe_int rfl)
      (pss_one (ps_ret pe_non))))) pss_nil)
      (pss_cons (ps_if (PW.pt (pw_or (pt_not (pt_val (pe_callB call_isi (by rfl) (T.free 74) (by decide +kernel) (pa_cons (pv 2) (pa_cons (pe_bltn (v := .ty "str") (by rfl) (T.free 79) (by decide +kernel) rfl) pa_nil))))) (pw_or1 (pt_cmp (pc_dnotin (hu_of hr) (pv 2) (pv 0)))))) (pss_one (ps_ret pe_str)) pss_nil)
      (pss_cons (ps_if (PW.pt (pw_or (pt_not (pt_val (pe_callF (ok__law_whole T) (hr.mono (by decide)) (T.glo 7) (fun σ => passAt0 σ) (pa_cons (pv 3) pa_nil)))) (pw_or (pt_cmpR op_lt (pv 3) pe_int (nomark _)) (pw_or1 (pt_cmpR op_gt (pv 3) (pe_op op_pow pe_int pe_int) (nomark _)))))) (pss_one (ps_ret pe_str)) pss_nil)
      (pss_cons (ps_if (PW.pt (pw_and (pt_cmpR op_eq (pv 1) pe_int (nomark _)) (pw_and1 (pt_cmpR op_gt (pv 3) (pe_dget (hu_of hr) (pv 0) (pv 2) (fun _ _ => rfl)) (nomark _))))) (pss_one (ps_ret pe_str)) pss_nil)
      (pss_cons (ps_dput (hu_of hr) (pv 0) (pv 2) (pe_op op_add (pe_dget (hu_of hr) (pv 0) (pv 2) (fun _ _ => rfl)) (pe_op op_mul (pv 3) (pe_op op_sub pe_int (pe_op op_mul pe_int (pv 1))))) rfl)
      (pss_one (ps_ret pe_non))))))), ?_⟩
  have ht1 := ht.there (A := cell d (.dK (kvI l)))
  have hu1 := hu.there (A := cell d (.dK (kvI l)))
  w_means
  refine ite_dec (fun c => ?_) (fun c => ?_)
  · have c0 : way = 0 := V.int.inj c
    w_means
    refine wpf_spc ⟨x, t, rfl, ht1, hz, ?_⟩
    w_means
    refine ite_b (fun cn => ?_) (fun cn => ?_)
    · rw [due_noname c0 (not_t cn)] at k
      w_means
      exact ⟨_, .refl _, k⟩
    obtain ⟨z, rfl, hn⟩ := isName_some (not_f cn)
    w_means
    refine wpe_din ?_
    w_means
    refine ⟨d, kvI l, .inr z, rfl, rfl, .inl .here, ?_⟩
    rw [kvI_val, Option.isSome_map]
    w_means
    refine ite_b (fun cp => ?_) (fun cp => ?_)
    · rw [due_taken c0 (not_f cn) cp] at k
      w_means
      exact ⟨_, .refl _, k⟩
    have c' : getI l z = none := by
      cases e : getI l z with
      | none => rfl
      | some v => rw [e] at cp; cases cp
    rw [due_open c0 hn c'] at k
    w_means
    refine wps_dput ?_
    w_means
    refine ⟨d, kvI l, .inr z, _, rfl, rfl, by rw [kvI_len]; exact line_lt (by omega), .here, ?_⟩
    rw [kvI_put]
    w_means
    exact ⟨_, .refl _, k⟩
  · have c0 : way ≠ 0 := fun e => c (by rw [e])
    w_means
    refine wc_isi ht1.kd ht1.kstr ?_
    by_cases cp : isPu l x = true
    · obtain ⟨z, v, rfl, hv⟩ := isPu_some cp
      w_means
      refine wpe_dnotin ?_
      w_means
      refine ⟨d, kvI l, .inr z, rfl, rfl, .inl .here, ?_⟩
      rw [kvI_val, hv]
      w_means
      refine wpf_spc ⟨y, u, rfl, hu1, ?_⟩
      w_means
      have noam : amt y = false → Up Kv (.str "NoAmount") (cell d (.dK (kvI l)) :: F) := fun h => by
        rw [due_noamount c0 cp h] at k
        exact ⟨_, .refl _, k⟩
      cases y with
      | int n =>
        w_means
        refine ite_dec (fun c1 => ?_) (fun c1 => ?_)
        · w_means
          exact noam (amt_no (by omega))
        w_means
        refine ite_dec (fun c2 => ?_) (fun c2 => ?_)
        · w_means
          have z' : (10 : Int) ^ 30 < n := c2
          exact noam (amt_no (by omega))
        have ca : amt (.int n) = true := by
          have z' : ¬ (10 : Int) ^ 30 < n := c2
          exact amt_int (by omega) (by omega)
        w_means
        refine ite_dec (fun c3 => ?_) (fun c3 => ?_)
        · have c3 : way = 2 := V.int.inj c3
          w_means
          refine wpe_dget ?_
          w_means
          refine ⟨d, kvI l, .inr z, .int v, rfl, rfl, .inl .here, by rw [kvI_val, hv]; rfl, ?_⟩
          w_means
          refine ite_dec (fun c4 => ?_) (fun c4 => ?_)
          · rw [due_little c3 hv ca c4] at k
            w_means
            exact ⟨_, .refl _, k⟩
          · rw [due_move c0 hv ca (fun h => c4 h.2)] at k
            w_means
            refine wps_dput ?_
            w_means
            refine wpe_dget ?_
            w_means
            refine ⟨d, kvI l, .inr z, .int v, rfl, rfl, .inl .here, by rw [kvI_val, hv]; rfl, ?_⟩
            w_means
            refine wr_I (by unfold CMul; exact .inr ⟨by omega, by omega⟩) ?_
            w_means
            refine ⟨d, kvI l, .inr z, _, rfl, rfl, by rw [kvI_len]; exact line_lt (by omega), .here, ?_⟩
            rw [kvI_put]
            w_means
            exact ⟨_, .refl _, k⟩
        · rw [due_move c0 hv ca (fun h => c3 (by rw [h.1]))] at k
          w_means
          refine wps_dput ?_
          w_means
          refine wpe_dget ?_
          w_means
          refine ⟨d, kvI l, .inr z, .int v, rfl, rfl, .inl .here, by rw [kvI_val, hv]; rfl, ?_⟩
          w_means
          refine wr_I (by unfold CMul; exact .inr ⟨by omega, by omega⟩) ?_
          w_means
          refine ⟨d, kvI l, .inr z, _, rfl, rfl, by rw [kvI_len]; exact line_lt (by omega), .here, ?_⟩
          rw [kvI_put]
          w_means
          exact ⟨_, .refl _, k⟩
      | _ =>
        w_means
        exact noam rfl
    · have cp : isPu l x = false := by
        cases e : isPu l x with
        | true => exact absurd e cp
        | false => rfl
      rw [due_nopurse c0 cp] at k
      cases x with
      | str z =>
        w_means
        refine wpe_dnotin ?_
        w_means
        refine ⟨d, kvI l, .inr z, rfl, rfl, .inl .here, ?_⟩
        rw [kvI_val, Option.isSome_map, show (getI l z).isSome = false from cp]
        w_means
        exact ⟨_, .refl _, k⟩
      | _ =>
        w_means
        exact ⟨_, .refl _, k⟩
def N__law_one_same : List Str := ["_law_book", "_law_free", "_law_way", "_law_purse", "_law_held", "_law_told_here", "_law_found"]
theorem sc__law_one_same : FnScope N__law_one_same ["_law_book", "_law_free", "_law_way", "_law_purse", "_law_held"] (defScope s__law_one_same) := ⟨rfl, rfl, rfl, by decide +kernel, rfl, by decide +kernel, by decide +kernel⟩
theorem ok__law_one_same (T : TT K mg) : Ok P w K mg base 4 (He.ga K "_law_one_same") (B_one7 K) := by
  refine ok_of (d := d__law_one_same) (N := N__law_one_same) (ps := ["_law_book", "_law_free", "_law_way", "_law_purse", "_law_held"]) T.toTx 25 rfl rfl rfl sc__law_one_same (fun _ _ _ _ _ _ us hl => match us, hl with | [_, _, _, _, _], _ => rfl) (fun _ _ _ _ h => by obtain ⟨_, _, _, _, _, _, _, _, e, _⟩ := h; rw [e]; rfl) (fun cdv A outer s H vs L E Kv KE hr hE hB => ?_)
  obtain ⟨b, kd, ph, way, z, l, n, F, rfl, rfl, hway, hget, hkey, hl, hn, k⟩ := hB
  refine ⟨_, (pss_cons (ps_if (pt_cmpR op_lt (pv 2) pe_int (nomark _)) (pss_cons (ps_set (i := 5) sc__law_one_same.nd rfl (Or.inl rfl) (pe_ifExp (pt_cmpR op_eq (pv 2) pe_int (nomark _)) (pe_methF (pv 0) (T.cls 30) (T.meth 43) (ok_Book_free_of T) (hr.mono (by decide)) (fun σ => passAt0 σ) (pa_cons (pv 3) pa_nil)) (pe_methF (pv 0) (T.cls 30) (T.meth 44) (ok_Book_aside_of T) (hr.mono (by decide)) (fun σ => passAt0 σ) (pa_cons (pv 3) pa_nil))))
      (pss_one (ps_ret (pe_and (pe_callF (ok__law_whole T) (hr.mono (by decide)) (T.glo 7) (fun σ => passAt0 σ) (pa_cons (pv 5) pa_nil)) (pe_one (pe_cmpR op_eq (pv 5) (pe_ix ix_list (pe_lst (pa_cons (pe_dget (hu_of hr) (pv 1) (pv 3) (fun _ _ => rfl)) (pa_cons pe_int pa_nil))) (pv 2) (fun _ _ => rfl)) (nomark _))))))) pss_nil)
      (pss_cons (ps_set (i := 6) sc__law_one_same.nd rfl (Or.inl rfl) (pe_ifExp (pt_cmpR op_eq (pv 2) pe_int (nomark _)) (pe_methF0 (pv 0) (T.cls 30) (T.meth 41) (ok_Book_purses T) (hr.mono (by decide)) (fun σ => passAt0 σ)) (pe_methF0 (pv 0) (T.cls 30) (T.meth 42) (ok_Book_told T) (hr.mono (by decide)) (fun σ => passAt0 σ))))
      (pss_cons (ps_if (PW.pt (pw_or (pt_not (pt_val (pe_callB call_isi (by rfl) (T.free 74) (by decide +kernel) (pa_cons (pv 6) (pa_cons (pe_bltn (v := .ty "list") (by rfl) (T.free 76) (by decide +kernel) rfl) pa_nil))))) (pw_or1 (pt_cmpR (op_neD hr.units) (pv 6) (pe_ix ix_list (pe_lst (pa_cons (pe_callTy (call_list_dK rfl) (by rfl) (T.free 76) (by decide +kernel) (pa_cons (pv 1) pa_nil)) (pa_cons (pe_lst pa_nil) pa_nil))) (pe_op op_sub (pv 2) pe_int) (fun _ _ => rfl)) (nomark _))))) (pss_one (ps_ret pe_bl)) pss_nil)
      (pss_cons (ps_expr (pe_bm PySem.F.plainAttrs_list PySem.F.slot_list_append PySem.F.type_list_append mt_append (pv 6) (pa_cons pe_str pa_nil)))
      (pss_cons (ps_expr (pe_bm PySem.F.plainAttrs_list PySem.F.slot_list_append PySem.F.type_list_append mt_append (pv 4) (pa_cons (pe_tup (pa_cons (pv 6) (pa_cons (pe_callTy cr_listS (by rfl) (T.free 76) (by decide +kernel) (pa_cons (pv 6) pa_nil)) pa_nil))) pa_nil)))
      (pss_one (ps_ret pe_bl))))))), ?_⟩
  refine wps_purA fun dx pf pa pp => ?_
  w_means
  refine ite_dec (fun c => ?_) (fun c => ?_)
  · obtain ⟨v, hv⟩ := Option.isSome_iff_exists.mp (hget c)
    w_means
    refine ite_dec (fun c1 => ?_) (fun c1 => ?_)
    · have c1 : way = 0 := V.int.inj c1
      subst c1
      w_means
      refine wpe_meth0 ?_
      w_means
      refine ⟨b, rfl, HasB.is (d := 0) (pf := pf) (pa := pa) (pp := pp) ⟨dx, .here⟩ _, ?_⟩
      w_means
      refine wpf_spc ⟨b, .str z, "str", 0, pf, pa, pp, l, rfl, ⟨dx, .here⟩, .inl (.there .here), .str z, fun h => ?_, fun z' v' e h => ?_⟩
      · rw [show isPu l (.str z) = true from hget c] at h
        cases h
      cases e
      rw [hv] at h
      cases h
      w_means
      refine wpf_spc ⟨.int v, "int", rfl, .int _, ?_⟩
      w_means
      refine wpe_dget ?_
      w_means
      refine ⟨kd, kvI l, .inr z, .int v, rfl, rfl, .inl (.there (.there (.there (.there .here)))), by rw [kvI_val, hv]; rfl, ?_⟩
      w_means
      refine ⟨by show 2 ≤ sizeLine; decide, fun p => ?_⟩
      w_means
      refine wr_ixL (v := .int v) (.c .here) rfl ?_
      w_means
      rw [decide_eq_true rfl]
      exact ⟨_, Ent.trans .drop (Ent.trans purA_mk (Ent.cons (Ent.cons (heldA_up (Nat.le_succ n))))), k⟩
    · have c1 : way = 1 := by
        have : way ≠ 0 := fun e => c1 (by rw [e])
        omega
      subst c1
      w_means
      refine wpe_meth0 ?_
      w_means
      refine ⟨b, rfl, HasB.is (d := 0) (pf := pf) (pa := pa) (pp := pp) ⟨dx, .here⟩ _, ?_⟩
      w_means
      refine wpf_spc ⟨b, .str z, "str", 0, pf, pa, pp, l, zerI l, rfl, ⟨dx, .here⟩, .inl (.there .here), .inl (.there (.there .here)), .str z, fun h => ?_, fun z' e h => ?_⟩
      · rw [show isPu l (.str z) = true from hget c] at h
        cases h
      cases e
      refine ⟨0, by rw [getI_zer, hv]; rfl, ?_⟩
      w_means
      refine wpf_spc ⟨.int 0, "int", rfl, .int _, ?_⟩
      w_means
      refine wpe_dget ?_
      w_means
      refine ⟨kd, kvI l, .inr z, .int v, rfl, rfl, .inl (.there (.there (.there (.there .here)))), by rw [kvI_val, hv]; rfl, ?_⟩
      w_means
      refine ⟨by show 2 ≤ sizeLine; decide, fun p => ?_⟩
      w_means
      refine wr_ixL (v := .int 0) (.c .here) rfl ?_
      w_means
      exact ⟨_, Ent.trans .drop (Ent.trans purA_mk (Ent.cons (Ent.cons (heldA_up (Nat.le_succ n))))), k⟩
  refine wps_ent (Pick.ent (A := heldA ph n) (.there (.there (.there (.there (.there .here)))))) (wps_held fun hs hsz hok => ?_)
  w_means
  refine ite_dec (fun c1 => ?_) (fun c1 => ?_)
  · have c1 : way = 2 := V.int.inj c1
    subst c1
    w_means
    refine wpe_meth0 ?_
    w_means
    refine ⟨b, rfl, HasB.is (d := 0) (pf := pf) (pa := pa) (pp := pp) ⟨dx, .there (.there .here)⟩ _, ?_⟩
    w_means
    refine wpf_spc ⟨b, 0, pf, pa, pp, l, rfl, ⟨dx, .there (.there .here)⟩, .there (.there (.there .here)), fun p1 => ?_⟩
    w_means
    refine wc_isi (kd_lst (.c .here)) (b := true) (by decide +kernel) ?_
    w_means
    refine wc_listD (kvs := kvI l) (.there (.there (.there (.there (.there (.there (.there .here))))))) fun p2 => ?_
    rw [kvI_keys]
    w_means
    refine ⟨by decide, fun p3 => ?_⟩
    w_means
    refine ⟨by show 2 ≤ sizeLine; decide, fun p4 => ?_⟩
    w_means
    refine wr_ixL (v := .ref p2) (.c .here) rfl ?_
    refine wr_neSame (xs := keysI l) (.c (.there (.there (.there .here)))) (.c (.there (.there .here))) hkey ?_
    w_means
    refine wpe_bm ?_
    w_means
    refine ⟨ty_lst (.c (.there (.there (.there .here)))), ?_⟩
    w_means
    refine wm_append (.there (.there (.there .here))) (by rw [List.length_map, keysI, List.length_map]; exact line_lt (by omega)) ?_
    w_means
    refine wpe_bm ?_
    w_means
    refine ⟨ty_lst (.c (.there (.there (.there (.there .here))))), ?_⟩
    w_means
    rw [show (keysI l).map V.str ++ [V.str "other"] = (keysI l ++ [Str.ofString "other"]).map V.str by rw [List.map_append]; rfl]
    refine wc_list (xs := (keysI l ++ [Str.ofString "other"]).map V.str) (.c (.there (.there (.there .here)))) fun p5 => ?_
    w_means
    refine ⟨by show 2 ≤ sizeLine; decide, fun p6 => ?_⟩
    w_means
    refine wm_append (.there (.there (.there (.there (.there (.there .here)))))) (by show (hs.map _).length < _; rw [List.length_map]; exact line_lt (by omega)) ?_
    w_means
    refine ⟨_, ?_, k⟩
    refine Ent.trans ?e1 (Ent.trans (heldA_add (ph := ph) (F := cell b (.ins (He.ga K "Book") dx (bF 0 pf pa pp)) :: cell pf (.dK (kvI l)) :: cell pa (.dK (kvI (zerI l))) :: cell pp (.dK []) :: cell kd (.dK (kvI l)) :: F) (t := p6) (p := p1) (q := p5) (xs := keysI l ++ [Str.ofString "other"]) hsz hok ?e2) ?e3)
    case e2 =>
      intro y m
      rcases List.mem_append.mp m with m | m
      · exact hkey y m
      · rcases List.mem_cons.mp m with rfl | m
        · exact ok_other
        · cases m
    case e1 => exact Ent.cons (Ent.trans (Ent.cons (Ent.trans .drop (Ent.trans .drop .drop))) .swap)
    case e3 => exact Ent.trans (Pick.ent' (.there (.there (.there (.there (.there .here)))))) purA_mk
  · have c1 : way = 3 := by
      have : way ≠ 2 := fun e => c1 (by rw [e])
      omega
    subst c1
    w_means
    refine wpe_meth0 ?_
    w_means
    refine ⟨b, rfl, HasB.is (d := 0) (pf := pf) (pa := pa) (pp := pp) ⟨dx, .there (.there .here)⟩ _, ?_⟩
    w_means
    refine wpf_spc ⟨b, 0, pf, pa, pp, [], rfl, ⟨dx, .there (.there .here)⟩, .there (.there (.there (.there (.there .here)))), fun p1 => ?_⟩
    w_means
    refine wc_isi (kd_lst (.c .here)) (b := true) (by decide +kernel) ?_
    w_means
    refine wc_listD (kvs := kvI l) (.there (.there (.there (.there (.there (.there (.there .here))))))) fun p2 => ?_
    rw [kvI_keys]
    w_means
    refine ⟨by decide, fun p3 => ?_⟩
    w_means
    refine ⟨by show 2 ≤ sizeLine; decide, fun p4 => ?_⟩
    w_means
    refine wr_ixL (v := .ref p3) (.c .here) rfl ?_
    refine wr_neSame (xs := []) (.c (.there (.there (.there .here)))) (.c (.there .here)) (fun _ m => nomatch m) ?_
    w_means
    refine wpe_bm ?_
    w_means
    refine ⟨ty_lst (.c (.there (.there (.there .here)))), ?_⟩
    w_means
    refine wm_append (.there (.there (.there .here))) (by show 0 < sizeLine; decide) ?_
    w_means
    refine wpe_bm ?_
    w_means
    refine ⟨ty_lst (.c (.there (.there (.there (.there .here))))), ?_⟩
    w_means
    rw [show (([] : List (Key × V)).map fun kv => kV kv.1) ++ [V.str "other"] = ([Str.ofString "other"]).map V.str from rfl]
    refine wc_list (xs := ([] ++ [Str.ofString "other"]).map V.str) (.c (.there (.there (.there .here)))) fun p5 => ?_
    w_means
    refine ⟨by show 2 ≤ sizeLine; decide, fun p6 => ?_⟩
    w_means
    refine wm_append (.there (.there (.there (.there (.there (.there .here)))))) (by show (hs.map _).length < _; rw [List.length_map]; exact line_lt (by omega)) ?_
    w_means
    refine ⟨_, ?_, k⟩
    refine Ent.trans ?e1 (Ent.trans (heldA_add (ph := ph) (F := cell b (.ins (He.ga K "Book") dx (bF 0 pf pa pp)) :: cell pf (.dK (kvI l)) :: cell pa (.dK (kvI (zerI l))) :: cell pp (.dK []) :: cell kd (.dK (kvI l)) :: F) (t := p6) (p := p1) (q := p5) (xs := [] ++ [Str.ofString "other"]) hsz hok ?e2) ?e3)
    case e2 =>
      intro y m
      rcases List.mem_append.mp m with m | m
      · cases m
      · rcases List.mem_cons.mp m with rfl | m
        · exact ok_other
        · cases m
    case e1 => exact Ent.cons (Ent.trans (Ent.cons (Ent.trans .drop (Ent.trans .drop .drop))) .swap)
    case e3 => exact Ent.trans (Pick.ent' (.there (.there (.there (.there (.there .here)))))) purA_mk
def N__law_same : List Str := ["_law_book", "_law_free", "_law_some", "_law_turn", "_law_held", "_law_asked", "_law_purse", "_law_at", "_law_way"]
theorem sc__law_same : FnScope N__law_same ["_law_book", "_law_free", "_law_some", "_law_turn", "_law_held"] (defScope s__law_same) := ⟨rfl, rfl, rfl, by decide +kernel, rfl, by decide +kernel, by decide +kernel⟩
theorem ok__law_same (T : TT K mg) : Ok P w K mg base 5 (He.ga K "_law_same") (B_same7 K) := by
  refine ok_of (d := d__law_same) (N := N__law_same) (ps := ["_law_book", "_law_free", "_law_some", "_law_turn", "_law_held"]) T.toTx 26 rfl rfl rfl sc__law_same (fun _ _ _ _ _ _ us hl => match us, hl with | [_, _, _, _, _], _ => rfl) (fun _ _ _ _ h => by obtain ⟨_, _, _, _, _, _, _, _, _, e, _⟩ := h; rw [e]; rfl) (fun cdv A outer s H vs L E Kv KE hr hE hB => ?_)
  obtain ⟨b, kd, ps, ph, turn, l, zs, n, F, rfl, rfl, hps, hz, hkey, hl, hn, k⟩ := hB
  refine ⟨_, (pss_cons (ps_if (pt_cmpR op_eq (pe_op op_mod (pv 3) pe_int) pe_int (nomark _)) (pss_one (ps_ret pe_bl)) pss_nil)
      (pss_cons (ps_set (i := 5) sc__law_same.nd rfl (Or.inl rfl) (pe_lst (pa_cons (pe_tup (pa_cons pe_int (pa_cons pe_str pa_nil))) (pa_cons (pe_tup (pa_cons pe_int (pa_cons pe_str pa_nil))) pa_nil))))
      (pss_cons (ps_for (passes_of rfl) rfl (pi_list (pv 2)) (pg_name (i := 6) sc__law_same.nd rfl (Or.inl rfl))
      (pss_one (ps_if (pt_cmp (pc_din (hu_of hr) (pv 6) (pv 1))) (pss_one (ps_set (i := 5) sc__law_same.nd rfl (Or.inl rfl) (pe_op op_cat (pv 5) (pe_lst (pa_cons (pe_tup (pa_cons pe_int (pa_cons (pv 6) pa_nil))) (pa_cons (pe_tup (pa_cons pe_int (pa_cons (pv 6) pa_nil))) pa_nil)))))) pss_nil)))
      (pss_cons (ps_set (i := 7) sc__law_same.nd rfl (Or.inl rfl) (pe_op op_mod (pe_op op_fdiv (pv 3) pe_int) (pe_callB cr_lenS (by rfl) (T.free 75) (by decide +kernel) (pa_cons (pv 5) pa_nil))))
      (pss_cons (ps_set (i := 5) sc__law_same.nd rfl (Or.inl rfl) (pe_slice3 (pe_op op_cat (pe_slice sl_list (pv 5) (po_some (pv 7)) po_none) (pe_slice sl_list (pv 5) po_none (po_some (pv 7)))) po_none po_none (po_some (pe_op op_sub pe_int (pe_op op_mul pe_int (pe_op op_mod (pe_op op_fdiv (pv 3) pe_int) pe_int))))))
      (pss_one (ps_ret (pe_callB (cr_all rfl) (by rfl) (T.free 71) (by decide +kernel) (pa_cons (pe_lc (own := [("_law_way", 8), ("_law_purse", 6)]) (g := gTup K 2 (gCons (gName 8) (gCons (gName 6) gNil))) (tt := tYes) rfl sc__law_same.nd (pi_list (pv 5)) (blkOk_by (own := [("_law_way", 8), ("_law_purse", 6)]) (N := N__law_same) (sc := defScope s__law_same) (by decide +kernel)) (fun _ _ _ _ _ => (pg_tup rfl (pgs_cons (pg_name (i := 8) sc__law_same.nd rfl (Or.inl rfl)) (pgs_cons (pg_name (i := 6) sc__law_same.nd rfl (Or.inl rfl)) pgs_nil)))) (fun _ _ _ _ _ => pts_nil) (fun _ _ _ _ _ => (pe_callF (ok__law_one_same T) (hr.mono (by decide)) (T.glo 14) (fun σ => passAt0 σ) (pa_cons (pv 0) (pa_cons (pv 1) (pa_cons (pv 8) (pa_cons (pv 6) (pa_cons (pv 4) pa_nil)))))))) pa_nil))))))))), ?_⟩
  w_means
  refine ite_dec (fun c => ?_) (fun c => ?_)
  · w_means
    exact ⟨_, Ent.cons (Ent.cons (heldA_up (by omega))), k⟩
  w_means
  refine ⟨by show 2 ≤ sizeLine; decide, fun t1 => ?_⟩
  w_means
  refine ⟨by show 2 ≤ sizeLine; decide, fun t2 => ?_⟩
  w_means
  refine ⟨by show 2 ≤ sizeLine; decide, fun q0 => ?_⟩
  w_means
  refine wps_forLe (wpe_var rfl ⟨ps, zs.map V.str, rfl, hps.there.there.there.there.there.there, fun i σ' L' => ∃ (as : ASK) (q : Addr) (v : Option V), askOk l as ∧ (2 ≤ as.length ∧ as.length ≤ 2 + 2 * i) ∧ σ' = [some (.ref b), some (.ref kd), some (.ref ps), some (.int turn), some (.ref ph), some (.ref q), v, none, none] ∧ L' = cell q (.lst (askV as)) :: Shs (askO as) :: purA K b l :: cell kd (.dK (kvI l)) :: heldA ph n :: F, ?_, ?_, ?_, ?_⟩)
  · refine ⟨_, Ent.cons ask_first, [(t1, 2, ""), (t2, 3, "")], q0, none, fun t m => ?_, ⟨by show 2 ≤ 2; omega, by show 2 ≤ _; omega⟩, rfl, rfl⟩
    rcases List.mem_cons.mp m with rfl | m
    · exact ⟨⟨show (0 : Int) ≤ 2 by decide, show (2 : Int) < 4 by decide⟩, fun h => absurd (show (2 : Int) < 2 from h) (by decide)⟩
    · rcases List.mem_cons.mp m with rfl | m
      · exact ⟨⟨show (0 : Int) ≤ 3 by decide, show (3 : Int) < 4 by decide⟩, fun h => absurd (show (3 : Int) < 2 from h) (by decide)⟩
      · cases m
  · rintro i σ' L' _ ⟨as, q, v, _, _, _, rfl⟩
    exact hps.there.there.there.there.there
  · rintro i σ' L' x hx ⟨as, q, v, hok, ⟨hl1, hl2⟩, rfl, rfl⟩
    obtain ⟨z, hz1, rfl⟩ := map_str_at hx
    have hi : i < zs.length := (List.getElem?_eq_some_iff.mp hz1).1
    w_means
    refine wpe_din ?_
    w_means
    refine ⟨kd, kvI l, .inr z, rfl, rfl, .inl (.there (.there (.there .here))), ?_⟩
    rw [kvI_val, Option.isSome_map]
    w_means
    refine ite_b (fun c1 => ?_) (fun c1 => ?_)
    · w_means
      refine ⟨by show 2 ≤ sizeLine; decide, fun t3 => ?_⟩
      w_means
      refine ⟨by show 2 ≤ sizeLine; decide, fun t4 => ?_⟩
      w_means
      refine ⟨by show 2 ≤ sizeLine; decide, fun q1 => ?_⟩
      w_means
      refine wr_cat (xs := askV as) (ys := [.ref t3, .ref t4]) (.c (.there (.there (.there .here)))) (.c .here) (by show (as.map _).length + 2 ≤ _; rw [List.length_map]; exact line_le (by omega)) fun q2 => ?_
      rw [askV_more (z := z)]
      w_means
      exact ⟨_, Ent.cons (Ent.trans .drop (Ent.trans (Ent.cons (Ent.cons .drop)) ask_more)), _, q2, _, askOk_more hok c1, ⟨by rw [List.length_append]; omega, by rw [List.length_append]; show as.length + 2 ≤ _; omega⟩, rfl, rfl⟩
    · w_means
      exact .of ⟨as, q, _, hok, ⟨hl1, by omega⟩, rfl, rfl⟩
  rintro σ' L' ⟨as, q, v, hok, ⟨hl1, hl2⟩, rfl, rfl⟩
  rw [List.length_map] at hl2
  have hlv : (askV as).length = as.length := by unfold askV; rw [List.length_map]
  w_means
  refine wc_len (xs := askV as) (.c .here) ?_
  rw [hlv]
  w_means
  refine wpe_sl3 ?_
  w_means
  refine wsl_list (xs := askV as) (.c .here) fun p1 => ?_
  w_means
  refine wsl_list (xs := askV as) (.c (.there .here)) fun p2 => ?_
  w_means
  have lcat : ∀ i j : Int, (cutV (askV as) (some i) none).length + (cutV (askV as) none (some j)).length ≤ 1000 := fun i j => by
    have h1 := cutV_length (askV as) (some i) none
    have h2 := cutV_length (askV as) none (some j)
    omega
  refine wr_cat (.c (.there .here)) (.c .here) (line_le (Nat.le_trans (lcat _ _) (by decide))) fun p3 => ?_
  w_means
  refine ⟨p3, _, rfl, .c .here, fun e => by have := Option.some.inj e; omega, fun ys pz hm hzl => ?_⟩
  rw [List.length_append] at hzl
  have hyl := Nat.le_trans hzl (lcat _ _)
  have hym : ∀ y ∈ ys, ∃ t ∈ as, y = .ref t.1 := fun y m => by
    have : y ∈ askV as := by
      rcases List.mem_append.mp (hm y m) with m | m
      · exact cutV_mem m
      · exact cutV_mem m
    obtain ⟨t, ht, e⟩ := List.mem_map.mp this
    exact ⟨t, ht, e.symm⟩
  refine wps_ent (L1 := purA K b l :: cell kd (.dK (kvI l)) :: heldA ph n :: cell pz (.lst ys) :: Shs (askO as) :: F) ?en ?_
  case en => exact Ent.trans (Ent.cons (Ent.trans .drop (Ent.trans .drop (Ent.trans .drop (Ent.trans .drop Ent.in3))))) Ent.in3
  w_means
  refine wpe_lcL (wpe_var rfl ⟨pz, ys, rfl, .c (.there (.there (.there .here))), by omega, fun i acc L' => acc = (List.replicate i true).map V.bl ∧ L' = purA K b l :: cell kd (.dK (kvI l)) :: heldA ph (n + i) :: cell pz (.lst ys) :: Shs (askO as) :: F, ⟨rfl, rfl⟩, ?_, ?_, ?_⟩)
  · rintro i acc L' ⟨rfl, rfl⟩
    exact ⟨.c (.there (.there (.there .here))), by rw [List.length_map, List.length_replicate]; exact Nat.le_refl _⟩
  · rintro D i acc L' x hx ⟨rfl, rfl⟩
    have hi : i < ys.length := (List.getElem?_eq_some_iff.mp hx).1
    obtain ⟨⟨t, way, z⟩, ht, rfl⟩ := hym x (List.mem_of_getElem? hx)
    obtain ⟨o1, o2⟩ := hok _ ht
    refine wpg_tup (xs := [.int way, .str z]) (.m (.there (.there (.there (.there (.there .here))))) (List.mem_map_of_mem (f := fun t : Addr × Int × Str => (t.1, HO.tup [.int t.2.1, .str t.2.2])) ht)) rfl ?_
    refine wpgs_cons ?_
    w_means
    refine wpgs_cons ?_
    w_means
    refine wpgs_nil ?_
    refine ⟨rfl, ?_⟩
    w_means
    refine wpf_ent Ent.in3 (wpf_spc ⟨b, kd, ph, way, z, l, n + i, _, rfl, rfl, o1, o2, hkey, hl, by omega, ?_⟩)
    refine ⟨_, Ent.out3, ?_, rfl⟩
    rw [List.replicate_succ', List.map_append]
    rfl
  rintro D acc L' ⟨rfl, rfl⟩
  w_means
  refine wc_all (bs := List.replicate ys.length true) (.c .here) ?_
  rw [show (List.replicate ys.length true).all id = true by simp]
  w_means
  exact ⟨_, Ent.trans .drop (Ent.cons (Ent.cons (Ent.trans (Ent.cons (Ent.trans .drop .drop)) (heldA_up (by omega))))), k⟩
def N__law_refused_by_any : List Str := ["_law_book", "_law_purse", "e"]
theorem sc__law_refused_by_any : FnScope N__law_refused_by_any ["_law_book", "_law_purse"] (defScope s__law_refused_by_any) := ⟨rfl, rfl, rfl, by decide +kernel, rfl, by decide +kernel, by decide +kernel⟩
theorem ok__law_refused_by_any (T : TT K mg) : Ok P w K mg base 4 (He.ga K "_law_refused_by_any") (B_ref7 K) := by
  refine ok_of (d := d__law_refused_by_any) (N := N__law_refused_by_any) (ps := ["_law_book", "_law_purse"]) T.toTx 27 rfl rfl rfl sc__law_refused_by_any (fun _ _ _ _ _ _ us hl => match us, hl with | [_, _], _ => rfl) (fun _ _ _ _ h => by obtain ⟨_, _, _, _, e, _⟩ := h; rw [e]; rfl) (fun cdv A outer s H vs L E Kv KE hr hE hB => ?_)
  obtain ⟨b, z, l, F, rfl, rfl, hg, k⟩ := hB
  refine ⟨_, (pss_cons (ps_tryA (i := 2) sc__law_refused_by_any.nd rfl rfl ⟨by rfl, by decide, .inl (T.glo 45)⟩ takes0 (fun W pn xe tk hp => (pss_one (ps_expr (pe_methF (pv 0) (T.cls 30) (T.meth 43) (ok_Book_free_of T) (hr.mono (by decide)) (fun σ => passAt tk σ) (pa_cons (pv 1) pa_nil))))) (fun a oe cls d pn hz hf => (pss_one (ps_ret (pe_callB (call_isG hz hf) (by rfl) (T.free 74) (by decide +kernel) (pa_cons (pv 2) (pa_cons (pe_bltn (v := .ty "ValueError") (by rfl) (T.free 70) (by decide +kernel) rfl) pa_nil)))))))
      (pss_one (ps_ret pe_bl))), ?_⟩
  refine wps_purA fun dx pf pa pp => ?_
  w_means
  intro Wt hW
  w_means
  refine wpe_methW hW ?_
  w_means
  refine ⟨b, rfl, HasB.is (d := 0) (pf := pf) (pa := pa) (pp := pp) ⟨dx, .here⟩ _, ?_⟩
  w_means
  refine wpf_spc ⟨b, .str z, "str", 0, pf, pa, pp, l, rfl, ⟨dx, .here⟩, .inl (.there .here), .str z, fun h => ?_, fun z' v e h => ?_⟩
  · refine ⟨T.exm 96, fun a1 => ?_⟩
    w_means
    refine wc_isG (T.exi 0) (.ty _) (T.isv 1) ?_
    exact ⟨_, purA_mk, k⟩
  · cases e
    rw [hg] at h
    cases h
def N__law_opened : List Str := ["_law_script", "_law_books", "_law_kept", "_law_words", "_law_first", "_law_k", "_law_name", "_law_j"]
theorem sc__law_opened : FnScope N__law_opened ["_law_script", "_law_books", "_law_kept", "_law_words"] (defScope s__law_opened) := ⟨rfl, rfl, rfl, by decide +kernel, rfl, by decide +kernel, by decide +kernel⟩
theorem ok__law_opened (T : TT K mg) : Ok P w K mg base 5 (He.ga K "_law_opened") (B_opened7 K) := by
  refine ok_of (d := d__law_opened) (N := N__law_opened) (ps := ["_law_script", "_law_books", "_law_kept", "_law_words"]) T.toTx 28 rfl rfl rfl sc__law_opened (fun _ _ _ _ _ _ us hl => match us, hl with | [_, _, _, _], _ => rfl) (fun _ _ _ _ h => by obtain ⟨_, _, _, _, _, _, _, _, _, _, _, e, _⟩ := h; rw [e]; rfl) (fun cdv A outer s H vs L E Kv KE hr hE hB => ?_)
  obtain ⟨a, pb, pk, pw, b0, b1, k0, k1, ns, ws, F, rfl, rfl, hs, hpb, hpk, hpw, k⟩ := hB
  refine ⟨_, (pss_cons (ps_set (i := 4) sc__law_opened.nd rfl (Or.inl rfl) (pe_slice sl_list (pv 3) po_none (po_some pe_int)))
      (pss_cons (ps_if (pt_cmpR op_eq (pe_op op_mod (pe_op op_fdiv (pe_callF (ok__law_cell_at T) (hr.mono (by decide)) (T.glo 8) (fun σ => passAt0 σ) (pa_cons (pv 0) (pa_cons pe_int pa_nil))) pe_int) pe_int) pe_int (nomark _)) (pss_one (ps_set (i := 4) sc__law_opened.nd rfl (Or.inl rfl) (pe_op op_cat (pv 4) (pe_lc (own := [("_law_k", 5)]) (g := gName 5) (tt := tYes) rfl sc__law_opened.nd (pi_range1 (by rfl) (T.free 78) (pa_cons (pe_op op_add pe_int (pe_op op_mod (pe_op op_fdiv (pe_ix ix_list (pv 0) pe_int (fun _ _ => rfl)) pe_int) pe_int)) pa_nil)) (blkOk_by (own := [("_law_k", 5)]) (N := N__law_opened) (sc := defScope s__law_opened) (by decide +kernel)) (fun _ _ _ _ _ => (pg_name (i := 5) sc__law_opened.nd rfl (Or.inl rfl))) (fun _ _ _ _ _ => pts_nil) (fun _ _ _ _ _ => (pe_callF (ok__law_word T) (hr.mono (by decide)) (T.glo 10) (fun σ => passAt0 σ) (pa_cons (pe_op op_add pe_int (pv 5)) (pa_cons (pe_callF (ok__law_cell_at T) (hr.mono (by decide)) (T.glo 8) (fun σ => passAt0 σ) (pa_cons (pv 0) (pa_cons pe_int pa_nil))) pa_nil)))))))) pss_nil)
      (pss_cons (ps_for (passes_of rfl) rfl (pi_list (pv 4)) (pg_name (i := 6) sc__law_opened.nd rfl (Or.inl rfl))
      (pss_one (ps_for (passes_of rfl) rfl (pi_range1 (by rfl) (T.free 78) (pa_cons pe_int pa_nil)) (pg_name (i := 7) sc__law_opened.nd rfl (Or.inl rfl))
      (pss_cons (ps_expr (pe_methF (pe_ix ix_list (pv 1) (pv 7) (fun _ _ => rfl)) (T.cls 30) (T.meth 36) (ok_Book_open_purse T) (hr.mono (by decide)) (fun σ => passAt0 σ) (pa_cons (pv 6) pa_nil)))
      (pss_one (ps_dput (hu_of hr) (pe_ix ix_list (pv 2) (pv 7) (fun _ _ => rfl)) (pv 6) pe_int rfl))))))
      (pss_one (ps_ret (pv 4)))))), ?_⟩
  w_means
  refine wsl_list hpw.there.there.there.there fun p0 => ?_
  have hc2 : cutV ((wordS 0 (cellI ns 1) :: wordS 7 (cellI ns 1) :: ws).map V.str) none (some 2) = (firstN (cellI ns 1) 0).map V.str := by
    unfold cutV
    rw [HT.sIx_none, show (2 : Int) = ((2 : Nat) : Int) from rfl, HT.sIx_nat, List.length_map]
    show List.take (min 2 (ws.length + 2) - 0) (V.str _ :: V.str _ :: _) = _
    rw [show min 2 (ws.length + 2) - 0 = 2 by omega]
    rfl
  rw [hc2]
  close_w
  refine wps_cut (fun σ' L' => ∃ (m : Nat) (pfst : Addr) (v : Option V), m ≤ 200 ∧ σ' = [some (.ref a), some (.ref pb), some (.ref pk), some (.ref pw), some (.ref pfst), v, none, none] ∧ Ent L' (cell pfst (.lst ((firstN (cellI ns 1) m).map V.str)) :: purA K b0 [] :: purA K b1 [] :: cell k0 (.dK []) :: cell k1 (.dK []) :: F)) ?_ ?_
  · w_means
    refine wpf_spc ⟨a, ns, 0, rfl, by decide, hs.there.there.there.there.there, ?_⟩
    w_means
    refine ite_dec (fun c => ?_) (fun c => ?_)
    · have c : cellI ns 0 / 5 % 8 = 1 := V.int.inj c
      have hne : 0 < ns.length := by
        refine Nat.pos_of_ne_zero fun e => ?_
        have : cellI ns 0 = 0 := by
          unfold cellI
          rw [List.length_eq_zero_iff.mp e]
          rfl
        rw [this] at c
        revert c
        decide
      have h0 : atI (ns.map V.int) 0 = some (.int (cellI ns 0)) := cell_at (by decide) (by rw [List.length_map]; omega)
      w_means
      refine wpe_lcRP ?_
      w_means
      refine wr_ixL hs.there.there.there.there.there h0 ?_
      w_means
      refine ⟨60 + cellI ns 0 / 40 % 140, rfl, by omega, fun i => .str (wordS (40 + (i : Int)) (cellI ns 1)), ?_, ?_⟩
      · rintro D acc i hi
        w_means
        refine ⟨rfl, ?_⟩
        w_means
        refine wpf_spc ⟨a, ns, 1, rfl, by decide, hs.there.there.there.there.there.there, ?_⟩
        w_means
        exact wpf_spc ⟨40 + (i : Int), cellI ns 1, rfl, by omega, rfl, .refl _⟩
      intro D
      refine wr_cat (xs := (firstN (cellI ns 1) 0).map V.str) (.c (.there .here)) (.c .here) (by rw [List.length_map, firstN_len, List.length_map, List.length_range]; exact line_le (by omega)) fun p1 => ?_
      w_means
      refine ⟨(60 + cellI ns 0 / 40 % 140).toNat, p1, _, by omega, rfl, Ent.trans (Ent.cons (Ent.trans .drop .drop)) ?_⟩
      rw [firstN_app]
      exact .refl _
    · w_means
      exact ⟨0, p0, _, by omega, rfl, .refl _⟩
  rintro σ' L' ⟨m, pfst, v, hm, rfl, hE2⟩
  refine wps_ent hE2 ?_
  clear hE2
  have hnd := firstN_nodup (cellI ns 1) hm
  have hwds := firstN_wd (c := cellI ns 1) hm
  have hlen := firstN_len (cellI ns 1) m
  have k := fun p => k m p hm
  generalize firstN (cellI ns 1) m = nm at hnd hwds hlen k
  w_means
  refine wps_forLe (wpe_var rfl ⟨pfst, nm.map V.str, rfl, .c .here, fun i σ' L' => ∃ (v v6 v7 : Option V), σ' = [some (.ref a), some (.ref pb), some (.ref pk), some (.ref pw), some (.ref pfst), v, v6, v7] ∧ L' = cell pfst (.lst (nm.map V.str)) :: purA K b0 (al0 (nm.take i)) :: purA K b1 (al0 (nm.take i)) :: cell k0 (.dK (kvI (al0 (nm.take i)))) :: cell k1 (.dK (kvI (al0 (nm.take i)))) :: F, ?_, ?_, ?_, ?_⟩)
  · exact .of ⟨v, _, _, rfl, by rw [List.take_zero]; rfl⟩
  · rintro i σ' L' _ ⟨_, _, _, _, rfl⟩
    exact .c .here
  · rintro i σ' L' x hx ⟨v, v6, v7, rfl, rfl⟩
    obtain ⟨z, hz1, rfl⟩ := map_str_at hx
    have hi : i < nm.length := (List.getElem?_eq_some_iff.mp hz1).1
    have hwd := hwds z (List.mem_of_getElem? hz1)
    have hzok : okS (.str z) := by show z.length ≤ 1000; have := hwd.len; omega
    have hnot := not_take hnd hz1
    have hti : (nm.take i).length ≤ 202 := by rw [List.length_take]; omega
    w_means
    refine wps_forR1 (wpa_cons (wpe_c (wpa_nil ⟨2, rfl, by decide, fun j σ' L' => ∃ (v7 : Option V), σ' = [some (.ref a), some (.ref pb), some (.ref pk), some (.ref pw), some (.ref pfst), v, some (.str z), v7] ∧ ((j = 0 ∧ L' = cell pfst (.lst (nm.map V.str)) :: purA K b0 (al0 (nm.take i)) :: purA K b1 (al0 (nm.take i)) :: cell k0 (.dK (kvI (al0 (nm.take i)))) :: cell k1 (.dK (kvI (al0 (nm.take i)))) :: F) ∨ (j = 1 ∧ L' = cell pfst (.lst (nm.map V.str)) :: purA K b0 (al0 (nm.take (i + 1))) :: purA K b1 (al0 (nm.take i)) :: cell k0 (.dK (kvI (al0 (nm.take (i + 1))))) :: cell k1 (.dK (kvI (al0 (nm.take i)))) :: F) ∨ (j = 2 ∧ L' = cell pfst (.lst (nm.map V.str)) :: purA K b0 (al0 (nm.take (i + 1))) :: purA K b1 (al0 (nm.take (i + 1))) :: cell k0 (.dK (kvI (al0 (nm.take (i + 1))))) :: cell k1 (.dK (kvI (al0 (nm.take (i + 1))))) :: F)), ?_, ?_, ?_⟩)))
    · exact .of ⟨v7, rfl, .inl ⟨rfl, rfl⟩⟩
    · rintro j σ' L' hj ⟨v7, rfl, ⟨rfl, rfl⟩ | ⟨rfl, rfl⟩ | ⟨rfl, rfl⟩⟩
      · refine wpg_name ?_
        refine wps_ent (Pick.ent (A := purA K b0 (al0 (nm.take i))) (.there .here)) (wps_purA fun dx pf pa pp => ?_)
        w_means
        refine wpe_meth0 ?_
        w_means
        refine wr_ixL (v := .ref b0) hpb.there.there.there.there.there.there.there.there rfl ?_
        refine ⟨b0, rfl, HasB.is (d := 0) (pf := pf) (pa := pa) (pp := pp) ⟨dx, .here⟩ _, ?_⟩
        w_means
        refine wpf_spc ⟨b0, .str z, "str", 0, pf, pa, pp, al0 (nm.take i), zerI (al0 (nm.take i)), rfl, ⟨dx, .here⟩, .there .here, .there (.there .here), by rw [al0_len]; omega, by rw [zerI_len, al0_len]; omega, .str z, hzok, fun h => ?_, fun _ h => ?_, fun z' e hn hg => ?_⟩
        · rw [show isName (.str z) = true from hwd.name] at h; cases h
        · rw [show isPu (al0 (nm.take i)) (.str z) = (getI (al0 (nm.take i)) z).isSome from rfl, al0_none hnot] at h; cases h
        cases e
        refine ⟨_, _, .there .here, .there (.there .here), ⟨dx, .here⟩, ?_⟩
        w_means
        refine wps_dput ?_
        w_means
        refine wr_ixL (v := .ref k0) hpk.there.there.there.there.there.there.there.there rfl ?_
        w_means
        refine ⟨k0, kvI (al0 (nm.take i)), .inr z, _, rfl, rfl, by rw [kvI_len, al0_len]; exact line_lt (by omega), (.there (.there (.there (.there (.there (.there .here)))))), ?_⟩
        rw [kvI_put, zer_none (al0_none hnot), al0_put hnot, ← take_snoc hz1]
        w_means
        refine ⟨_, Ent.trans purA_mk (Ent.swap), _, rfl, .inr (.inl ⟨rfl, rfl⟩)⟩
      · refine wpg_name ?_
        refine wps_ent (Pick.ent (A := purA K b1 (al0 (nm.take i))) (.there (.there .here))) (wps_purA fun dx pf pa pp => ?_)
        w_means
        refine wpe_meth0 ?_
        w_means
        refine wr_ixL (v := .ref b1) hpb.there.there.there.there.there.there.there.there rfl ?_
        refine ⟨b1, rfl, HasB.is (d := 0) (pf := pf) (pa := pa) (pp := pp) ⟨dx, .here⟩ _, ?_⟩
        w_means
        refine wpf_spc ⟨b1, .str z, "str", 0, pf, pa, pp, al0 (nm.take i), zerI (al0 (nm.take i)), rfl, ⟨dx, .here⟩, .there .here, .there (.there .here), by rw [al0_len]; omega, by rw [zerI_len, al0_len]; omega, .str z, hzok, fun h => ?_, fun _ h => ?_, fun z' e hn hg => ?_⟩
        · rw [show isName (.str z) = true from hwd.name] at h; cases h
        · rw [show isPu (al0 (nm.take i)) (.str z) = (getI (al0 (nm.take i)) z).isSome from rfl, al0_none hnot] at h; cases h
        cases e
        refine ⟨_, _, .there .here, .there (.there .here), ⟨dx, .here⟩, ?_⟩
        w_means
        refine wps_dput ?_
        w_means
        refine wr_ixL (v := .ref k1) hpk.there.there.there.there.there.there.there.there rfl ?_
        w_means
        refine ⟨k1, kvI (al0 (nm.take i)), .inr z, _, rfl, rfl, by rw [kvI_len, al0_len]; exact line_lt (by omega), (.there (.there (.there (.there (.there (.there (.there .here))))))), ?_⟩
        rw [kvI_put, zer_none (al0_none hnot), al0_put hnot, ← take_snoc hz1]
        w_means
        refine ⟨_, Ent.trans purA_mk (Ent.trans Ent.swap (Ent.cons Ent.swap)), _, rfl, .inr (.inr ⟨rfl, rfl⟩)⟩
      · omega
    · rintro σ' L' ⟨v7, rfl, ⟨h, rfl⟩ | ⟨h, rfl⟩ | ⟨_, rfl⟩⟩
      · cases h
      · cases h
      · exact .of ⟨_, _, _, rfl, rfl⟩
  rintro σ' L' ⟨v, v6, v7, rfl, rfl⟩
  w_means
  rw [List.length_map, List.take_length]
  exact ⟨_, .refl _, k pfst⟩
def N_law : List Str := ["_law_script", "_law_books", "_law_kept", "_law_held", "_law_unit", "_law_many", "_law_words", "_law_k", "_law_first", "_law_some", "_law_cell", "_law_way", "_law_purse", "_law_amount", "_law_j", "_law_pair"]
theorem sc_law : FnScope N_law ["_law_script"] (defScope s_law) := ⟨rfl, rfl, rfl, by decide +kernel, rfl, by decide +kernel, by decide +kernel⟩
theorem okD_law (T : TT K mg) {f : Addr} {fd : FuncData} (F : FunD K d_law.name d_law.qual d_law.params d_law.body d_law.scope (d_law.dvs K) (d_law.kws K) f fd) : FnOk P w K mg base CX0 8 f fd ["_law_script"] (Spc (B_law K)) := by
  refine law_of (d := d_law) (N := N_law) (ps := ["_law_script"]) F sc_law (fun _ _ _ _ h => by obtain ⟨_, _, e, _⟩ := h; rw [e]; rfl) (fun cdv A outer s H vs L E Kv KE hr hE hB => ?_)
  obtain ⟨a, ns, rfl, hns, rfl, hk⟩ := hB
  refine ⟨_, (pss_cons (ps_set (i := 1) sc_law.nd rfl (Or.inl rfl) (pe_lst (pa_cons (pe_makeF0 (T.mkr 31) (ok_Book___init__ T) (hr.mono (by decide)) (T.glo 29) (fun σ => passAt0 σ)) (pa_cons (pe_makeF0 (T.mkr 31) (ok_Book___init__ T) (hr.mono (by decide)) (T.glo 29) (fun σ => passAt0 σ)) pa_nil))))
      (pss_cons (ps_set (i := 2) sc_law.nd rfl (Or.inl rfl) (pe_lst (pa_cons pe_dnewK (pa_cons pe_dnewK pa_nil))))
      (pss_cons (ps_set (i := 3) sc_law.nd rfl (Or.inl rfl) (pe_lst pa_nil))
      (pss_cons (ps_set (i := 4) sc_law.nd rfl (Or.inl rfl) pe_int)
      (pss_cons (ps_if (pt_cmpR op_eq (pe_op op_mod (pe_callF (ok__law_cell_at T) (hr.mono (by decide)) (T.glo 8) (fun σ => passAt0 σ) (pa_cons (pv 0) (pa_cons pe_int pa_nil))) pe_int) pe_int (nomark _)) (pss_one (ps_set (i := 4) sc_law.nd rfl (Or.inl rfl) (pe_op op_pow pe_int pe_int))) pss_nil)
      (pss_cons (ps_set (i := 5) sc_law.nd rfl (Or.inl rfl) pe_int)
      (pss_cons (ps_if (pt_cmpR op_gt (pe_callB cr_lenS (by rfl) (T.free 75) (by decide +kernel) (pa_cons (pv 0) pa_nil)) pe_int (nomark _)) (pss_one (ps_set (i := 5) sc_law.nd rfl (Or.inl rfl) pe_int)) pss_nil)
      (pss_cons (ps_setLc (i := 6) (own := [("_law_k", 7)]) (g := gName 7) (tt := tYes) rfl sc_law.nd rfl rfl (sw_true rfl rfl rfl (by decide +kernel)) (pi_range1 (by rfl) (T.free 78) (pa_cons pe_int pa_nil)) (blkOk_by (own := [("_law_k", 7)]) (N := N_law) (sc := defScope s_law) (by decide +kernel)) (fun _ _ _ _ _ => (pg_name (i := 7) sc_law.nd rfl (Or.inl rfl))) (fun _ _ _ _ _ => pts_nil) (fun _ _ _ _ _ => (pe_callF (ok__law_word T) (hr.mono (by decide)) (T.glo 10) (fun σ => passAt0 σ) (pa_cons (pe_op op_mul pe_int (pv 7)) (pa_cons (pe_callF (ok__law_cell_at T) (hr.mono (by decide)) (T.glo 8) (fun σ => passAt0 σ) (pa_cons (pv 0) (pa_cons pe_int pa_nil))) pa_nil)))))
      (pss_cons (ps_set (i := 8) sc_law.nd rfl (Or.inl rfl) (pe_callF (ok__law_opened T) (hr.mono (by decide)) (T.glo 17) (fun σ => passAt0 σ) (pa_cons (pv 0) (pa_cons (pv 1) (pa_cons (pv 2) (pa_cons (pv 6) pa_nil))))))
      (pss_cons (ps_set (i := 9) sc_law.nd rfl (Or.inl rfl) (pe_op op_cat (pv 6) (pe_lst (pa_cons (pe_ix ix_list (pv 8) (pe_un un_neg pe_int) (fun _ _ => rfl)) pa_nil))))
      (pss_cons (ps_set (i := 6) sc_law.nd rfl (Or.inl rfl) (pe_op op_cat (pe_op op_cat (pv 6) (pv 6)) (pe_lst (pa_cons pe_str (pa_cons pe_str (pa_cons pe_str (pa_cons pe_int (pa_cons pe_non (pa_cons (pe_lst (pa_cons pe_str pa_nil)) pa_nil)))))))))
      (pss_cons (ps_for (passes_of rfl) rfl (pi_range1 (by rfl) (T.free 78) (pa_cons (pe_callB (cr_min2 rfl) (by rfl) (T.free 77) (by decide +kernel) (pa_cons (pv 5) (pa_cons (pe_callB cr_lenS (by rfl) (T.free 75) (by decide +kernel) (pa_cons (pv 0) pa_nil)) pa_nil))) pa_nil)) (pg_name (i := 7) sc_law.nd rfl (Or.inl rfl))
      (pss_cons (ps_set (i := 10) sc_law.nd rfl (Or.inl rfl) (pe_callF (ok__law_mixed T) (hr.mono (by decide)) (T.glo 9) (fun σ => passAt0 σ) (pa_cons (pe_ix ix_list (pv 0) (pv 7) (fun _ _ => rfl)) (pa_cons (pv 7) pa_nil))))
      (pss_cons (ps_set (i := 11) sc_law.nd rfl (Or.inl rfl) (pe_ix ix_list (pe_lst (pa_cons pe_int (pa_cons pe_int (pa_cons pe_int (pa_cons pe_int (pa_cons pe_int (pa_cons pe_int pa_nil))))))) (pe_op op_mod (pv 10) pe_int) (fun _ _ => rfl)))
      (pss_cons (ps_set (i := 12) sc_law.nd rfl (Or.inl rfl) (pe_ix ix_list (pv 6) (pe_op op_add (pe_op op_mod (pe_op op_fdiv (pv 10) pe_int) pe_int) (pe_op op_mul pe_int (pe_op op_mod (pe_op op_fdiv (pv 10) pe_int) pe_int))) (fun _ _ => rfl)))
      (pss_cons (ps_set (i := 13) sc_law.nd rfl (Or.inl rfl) (pe_op op_mul (pe_op op_add pe_int (pe_op op_mod (pe_op op_fdiv (pv 10) pe_int) pe_int)) (pv 4)))
      (pss_cons (ps_if (pt_cmpR op_eq (pe_op op_mod (pe_op op_fdiv (pv 10) pe_int) pe_int) pe_int (nomark _)) (pss_one (ps_set (i := 13) sc_law.nd rfl (Or.inl rfl) (pe_ix ix_list (pe_lst (pa_cons pe_int (pa_cons (pe_un un_neg pe_int) (pa_cons (pe_op op_add (pe_op op_pow pe_int pe_int) pe_int) (pa_cons pe_bl (pa_cons pe_str (pa_cons (pe_op op_pow pe_int pe_int) pa_nil))))))) (pe_op op_mod (pe_op op_fdiv (pv 10) pe_int) pe_int) (fun _ _ => rfl)))) pss_nil)
      (pss_cons (ps_if (pt_cmpR op_ne (pe_callF (ok__law_told T) (hr.mono (by decide)) (T.glo 12) (fun σ => passAt0 σ) (pa_cons (pe_ix ix_list (pv 1) (pe_op op_mod (pv 7) pe_int) (fun _ _ => rfl)) (pa_cons (pv 11) (pa_cons (pv 12) (pa_cons (pv 13) pa_nil))))) (pe_callF (ok__law_due T) (hr.mono (by decide)) (T.glo 13) (fun σ => passAt0 σ) (pa_cons (pe_ix ix_list (pv 2) (pe_op op_mod (pv 7) pe_int) (fun _ _ => rfl)) (pa_cons (pv 11) (pa_cons (pv 12) (pa_cons (pv 13) pa_nil))))) (nomark _)) (pss_one (ps_ret pe_bl)) pss_nil)
      (pss_one (ps_for (passes_of rfl) rfl (pi_range1 (by rfl) (T.free 78) (pa_cons pe_int pa_nil)) (pg_name (i := 14) sc_law.nd rfl (Or.inl rfl))
      (pss_one (ps_if (pt_not (pt_val (pe_callF (ok__law_same T) (hr.mono (by decide)) (T.glo 15) (fun σ => passAt0 σ) (pa_cons (pe_ix ix_list (pv 1) (pv 14) (fun _ _ => rfl)) (pa_cons (pe_ix ix_list (pv 2) (pv 14) (fun _ _ => rfl)) (pa_cons (pv 9) (pa_cons (pe_op op_fdiv (pe_callF (ok__law_mixed T) (hr.mono (by decide)) (T.glo 9) (fun σ => passAt0 σ) (pa_cons (pe_ix ix_list (pv 0) (pv 7) (fun _ _ => rfl)) (pa_cons (pe_op op_add (pe_op op_add (pv 7) pe_int) (pv 14)) pa_nil))) pe_int) (pa_cons (pv 3) pa_nil)))))))) (pss_one (ps_ret pe_bl)) pss_nil)))))))))))
      (pss_cons (ps_if (PW.pt (pw_or (pt_not (pt_val (pe_callF (ok__law_same T) (hr.mono (by decide)) (T.glo 15) (fun σ => passAt0 σ) (pa_cons (pe_ix ix_list (pv 1) pe_int (fun _ _ => rfl)) (pa_cons (pe_ix ix_list (pv 2) pe_int (fun _ _ => rfl)) (pa_cons (pv 8) (pa_cons pe_int (pa_cons (pv 3) pa_nil)))))))) (pw_or1 (pt_not (pt_val (pe_callF (ok__law_same T) (hr.mono (by decide)) (T.glo 15) (fun σ => passAt0 σ) (pa_cons (pe_ix ix_list (pv 1) pe_int (fun _ _ => rfl)) (pa_cons (pe_ix ix_list (pv 2) pe_int (fun _ _ => rfl)) (pa_cons (pv 9) (pa_cons pe_int (pa_cons (pv 3) pa_nil))))))))))) (pss_one (ps_ret pe_bl)) pss_nil)
      (pss_cons (ps_if (PW.pt (pw_or (pt_cmpR (op_neD hr.units) (pe_lc (own := [("_law_pair", 15)]) (g := gName 15) rfl sc_law.nd (pi_list (pv 3)) (blkOk_by (own := [("_law_pair", 15)]) (N := N_law) (sc := defScope s_law) (by decide +kernel)) (fun _ _ _ _ _ => (pg_name (i := 15) sc_law.nd rfl (Or.inl rfl))) (fun _ _ _ _ _ => (pts_one (pt_cmpR (show OpR _ _ (rNeD K) from (op_neD hr.units)) (pe_ix (show IxR _ (rIxT K) from ix_tup) (pv 15) pe_int (fun _ _ => rfl)) (pe_ix (show IxR _ (rIxT K) from ix_tup) (pv 15) pe_int (fun _ _ => rfl)) (nomark _)))) (fun _ _ _ _ _ => (pv 15))) (pe_lst pa_nil) (nomark _)) (pw_or1 (pt_cmpR op_ne (pe_fld (pe_ix ix_list (pv 1) pe_int (fun _ _ => rfl)) rfl) pe_int (nomark _))))) (pss_one (ps_ret pe_bl)) pss_nil)
      (pss_one (ps_ret (pe_callF (ok__law_refused_by_any T) (hr.mono (by decide)) (T.glo 16) (fun σ => passAt0 σ) (pa_cons (pe_ix ix_list (pv 1) pe_int (fun _ _ => rfl)) (pa_cons pe_str pa_nil))))))))))))))))))), ?_⟩
  generalize hcc : cellI ns 1 = c
  w_means
  refine wpe_make le0 (wpa_nil fun b0 dx0 => wpf_spc ⟨b0, dx0, _, rfl, rfl, fun pf0 pa0 pp0 => ⟨rfl, ?_⟩⟩)
  w_means
  refine wpe_make le0 (wpa_nil fun b1 dx1 => wpf_spc ⟨b1, dx1, _, rfl, rfl, fun pf1 pa1 pp1 => ⟨rfl, ?_⟩⟩)
  w_means
  refine ⟨by show 2 ≤ sizeLine; decide, fun pb => ?_⟩
  refine wps_ent (L1 := [purA K b0 [], purA K b1 [], cell pb (.lst [V.ref b0, V.ref b1]), Sq K a (ns.map V.int)]) ?en1 ?_
  case en1 => exact Ent.trans (Ent.cons purA_mk2) (Ent.trans (Ent.cons (Ent.cons purA_mk2)) (by o_reads))
  w_means
  intro k0
  w_means
  intro k1
  w_means
  refine ⟨by show 2 ≤ sizeLine; decide, fun pk => ?_⟩
  w_means
  refine ⟨by decide, fun ph => ?_⟩
  close_w
  refine wps_cut (fun σ' L' => ∃ un : Int, σ' = [some (.ref a), some (.ref pb), some (.ref pk), some (.ref ph), some (.int un), none, none, none, none, none, none, none, none, none, none, none] ∧ L' = [cell ph (.lst []), cell pk (.lst [V.ref k0, V.ref k1]), cell k1 (.dK []), cell k0 (.dK []), purA K b0 [], purA K b1 [], cell pb (.lst [V.ref b0, V.ref b1]), Sq K a (ns.map V.int)]) ?_ ?_
  · w_means
    refine wpf_spc ⟨a, ns, 0, rfl, by decide, .q (.there (.there (.there (.there (.there (.there (.there .here))))))), ?_⟩
    w_means
    refine ite_dec (fun c => ?_) (fun c => ?_)
    · w_means
      exact ⟨_, rfl, rfl⟩
    · w_means
      exact ⟨_, rfl, rfl⟩
  rintro σ' L' ⟨un, rfl, rfl⟩
  w_means
  refine wc_len (.q (.there (.there (.there (.there (.there (.there (.there .here)))))))) ?_
  w_means
  refine ite_dec (fun c => absurd c (by rw [List.length_map]; omega)) (fun _ => ?_)
  w_means
  refine wpe_lcRP ?_
  w_means
  refine ⟨5, rfl, by decide, fun i => .str (wordS (7 * (i : Int)) c), ?_, ?_⟩
  · rintro D acc i hi
    w_means
    refine ⟨rfl, ?_⟩
    w_means
    refine wpf_spc ⟨a, ns, 1, rfl, by decide, .q (.there (.there (.there (.there (.there (.there (.there (.there .here)))))))), ?_⟩
    w_means
    rw [hcc]
    exact wpf_spc ⟨7 * (i : Int), c, rfl, by omega, rfl, .refl _⟩
  intro pw5
  rw [show (List.range (5 : Int).toNat).map (fun (i : Nat) => V.str (wordS (7 * (i : Int)) c)) = (W5 c).map V.str by unfold W5; rw [List.map_map]; rfl]
  w_means
  refine wpf_ent (L1 := purA K b0 [] :: purA K b1 [] :: cell k0 (.dK []) :: cell k1 (.dK []) :: [cell pw5 (.lst ((W5 c).map V.str)), cell ph (.lst []), cell pk (.lst [V.ref k0, V.ref k1]), cell pb (.lst [V.ref b0, V.ref b1]), Sq K a (ns.map V.int)]) (by o_reads) (wpf_spc ⟨a, pb, pk, pw5, b0, b1, k0, k1, ns, (W5 c).drop 2, _, rfl, rfl, .q (.there (.there (.there (.there .here)))), .c (.there (.there (.there .here))), .c (.there (.there .here)), .c (by rw [hcc]; exact .here), fun m pfs hm => ?_⟩)
  rw [hcc]
  have fgood : GoodL c (al0 (firstN c m)) 0 := ⟨by rw [al0_keys]; exact firstN_wd hm, by rw [al0_len, firstN_len]; omega⟩
  have flen : (firstN c m).length ≤ 202 := by rw [firstN_len]; omega
  obtain ⟨l', z, hlast⟩ : ∃ l' z, firstN c m = l' ++ [z] := by
    rcases List.eq_nil_or_concat (firstN c m) with h | ⟨l', z, h⟩
    · have := congrArg List.length h
      rw [firstN_len] at this
      cases this
    · exact ⟨l', z, by rw [h, List.concat_eq_append]⟩
  have hv : atI ((firstN c m).map V.str) (-1) = some (.str z) := by rw [hlast, List.map_append]; exact atI_last _ _
  clear hlast l'
  generalize al0 (firstN c m) = l at fgood
  generalize firstN c m = fn at flen hv
  w_means
  refine wr_ixL (xs := fn.map V.str) (.c .here) hv ?_
  w_means
  refine ⟨by show 1 ≤ sizeLine; decide, fun q1 => ?_⟩
  w_means
  refine wr_cat (xs := (W5 c).map V.str) (ys := [V.str z]) (.c (.there (.there (.there (.there (.there (.there .here))))))) (.c .here) (by simp [W5]; exact line_le (by decide)) fun psm => ?_
  rw [show (W5 c).map V.str ++ [V.str z] = (W5 c ++ [z]).map V.str by rw [List.map_append]; rfl]
  have smz : (W5 c ++ [z]).length ≤ 240 := by show (W5 c ++ [z]).length ≤ 240; simp [W5]
  generalize W5 c ++ [z] = sm at smz
  w_means
  refine wr_cat (xs := (W5 c).map V.str) (ys := (W5 c).map V.str) (.c (.there (.there (.there (.there (.there (.there (.there .here)))))))) (.c (.there (.there (.there (.there (.there (.there (.there .here)))))))) (by simp [W5]; exact line_le (by decide)) fun q2 => ?_
  w_means
  refine ⟨by show 1 ≤ sizeLine; decide, fun ptl => ?_⟩
  w_means
  refine ⟨by show 6 ≤ sizeLine; decide, fun q3 => ?_⟩
  w_means
  refine wr_cat (xs := (W5 c).map V.str ++ (W5 c).map V.str) (ys := [.str "", .str "Till", .str "abcdefghijklm", .int 7, .non, .ref ptl]) (.c (.there (.there .here))) (.c .here) (by simp [W5]; exact line_le (by decide)) fun p16 => ?_
  rw [show ((W5 c).map V.str ++ (W5 c).map V.str) ++ [.str "", .str "Till", .str "abcdefghijklm", .int 7, .non, .ref ptl] = W16 c ptl from rfl]
  have l16 : (W16 c ptl).length = 16 := by simp [W16, W5]
  refine wps_ent (L1 := [heldA ph 0, purA K b0 l, purA K b1 l, cell k0 (.dK (kvI l)), cell k1 (.dK (kvI l)), cell p16 (.lst (W16 c ptl)), cell psm (.lst (sm.map V.str)), cell pfs (.lst (fn.map V.str)), cell ptl (.lst [V.str "till"]), cell pb (.lst [V.ref b0, V.ref b1]), cell pk (.lst [V.ref k0, V.ref k1]), Sq K a (ns.map V.int)]) ?en2 ?_
  case en2 =>
    refine Ent.trans (Pick.ent (A := cell ph (.lst [])) (.there (.there (.there (.there (.there (.there (.there (.there (.there (.there (.there (.there .here))))))))))))) ?_
    refine Ent.trans (Ent.trans (Ent.cons Ent.shs0) (heldA_mk (hs := []) (n := 0) (Nat.le_refl _) (fun _ m => nomatch m))) (Ent.cons ?_)
    o_reads
  have hmin : (if ((ns.map V.int).length : Int) < 30 then ((ns.map V.int).length : Int) else 30) ≤ ns.length ∧ (if ((ns.map V.int).length : Int) < 30 then ((ns.map V.int).length : Int) else 30) ≤ 30 ∧ 0 ≤ (if ((ns.map V.int).length : Int) < 30 then ((ns.map V.int).length : Int) else 30) := by rw [List.length_map]; split <;> omega
  w_means
  refine wps_forR1 ?_
  w_means
  refine wc_len (.q (.there (.there (.there (.there (.there (.there (.there (.there (.there (.there (.there .here)))))))))))) ?_
  w_means
  refine wc_min2 ?_
  generalize (if ((ns.map V.int).length : Int) < 30 then ((ns.map V.int).length : Int) else 30) = jm at hmin
  w_means
  refine ⟨jm, rfl, by omega, fun i σ' L' => ∃ (n : Nat) (l0 l1 : AL) (v1 v2 v3 v4 v5 v6 v7 : Option V), n ≤ 2000 * i ∧ GoodL c l0 i ∧ GoodL c l1 i ∧ σ' = [some (.ref a), some (.ref pb), some (.ref pk), some (.ref ph), some (.int un), some (.int 30), some (.ref p16), v1, some (.ref pfs), some (.ref psm), v2, v3, v4, v5, v6, v7] ∧ L' = [heldA ph n, purA K b0 l0, purA K b1 l1, cell k0 (.dK (kvI l0)), cell k1 (.dK (kvI l1)), cell p16 (.lst (W16 c ptl)), cell psm (.lst (sm.map V.str)), cell pfs (.lst (fn.map V.str)), cell ptl (.lst [V.str "till"]), cell pb (.lst [V.ref b0, V.ref b1]), cell pk (.lst [V.ref k0, V.ref k1]), Sq K a (ns.map V.int)], ?_, ?_, ?_⟩
  · exact .of ⟨0, l, l, none, none, none, none, none, none, none, Nat.zero_le _, fgood, fgood, rfl, rfl⟩
  · rintro i σ' L' hi ⟨n, l0, l1, v1, v2, v3, v4, v5, v6, v7, hn, hg0, hg1, rfl, rfl⟩
    have hib : (i : Int) < ((ns.map V.int).length : Int) := by rw [List.length_map]; omega
    have hcell : atI (ns.map V.int) (i : Int) = some (.int (cellI ns (i : Int))) := cell_at (by omega) hib
    w_means
    refine wr_ixL (.q (by w_fin)) hcell ?_
    w_means
    refine wpf_spc ⟨_, _, rfl, ?_⟩
    generalize mixI (cellI ns (i : Int)) (i : Int) = cc
    w_means
    refine ⟨by show 6 ≤ sizeLine; decide, fun p1 => ?_⟩
    w_means
    obtain ⟨wv, hw1, hw2⟩ := atI_in (xs := [V.int 0, V.int 1, V.int 1, V.int 1, V.int 2, V.int 2]) (i := cc % 6) (Int.emod_nonneg _ (by decide)) (Int.emod_lt_of_pos _ (by decide))
    obtain ⟨wy, rfl, hwy⟩ : ∃ wy : Int, wv = .int wy ∧ (wy = 0 ∨ wy = 1 ∨ wy = 2) := by
      simp only [List.mem_cons, List.not_mem_nil, or_false] at hw2
      rcases hw2 with rfl | rfl | rfl | rfl | rfl | rfl
      · exact ⟨0, rfl, .inl rfl⟩
      · exact ⟨1, rfl, .inr (.inl rfl)⟩
      · exact ⟨1, rfl, .inr (.inl rfl)⟩
      · exact ⟨1, rfl, .inr (.inl rfl)⟩
      · exact ⟨2, rfl, .inr (.inr rfl)⟩
      · exact ⟨2, rfl, .inr (.inr rfl)⟩
    refine wr_ixL (.c .here) hw1 ?_
    w_means
    obtain ⟨x, hx1, hx2⟩ := atI_in (xs := W16 c ptl) (i := cc / 6 % 11 + 5 * (cc / 23760 % 2)) (by omega) (by rw [l16]; omega)
    obtain ⟨hxw, hxs, hxt⟩ := W16_ok hx2
    refine wr_ixL (xs := W16 c ptl) (.c (by w_fin)) hx1 ?_
    w_means
    refine wr_I (by unfold CMul; exact .inl ⟨by omega, by omega⟩) ?_
    close_w
    refine wps_cut (fun σ' L' => ∃ (y : V) (t : String), (∀ L, Ty L y t) ∧ σ' = [some (.ref a), some (.ref pb), some (.ref pk), some (.ref ph), some (.int un), some (.int 30), some (.ref p16), some (.int (i : Int)), some (.ref pfs), some (.ref psm), some (.int cc), some (.int wy), some x, some y, v6, v7] ∧ Ent L' [heldA ph n, purA K b0 l0, purA K b1 l1, cell k0 (.dK (kvI l0)), cell k1 (.dK (kvI l1)), cell p16 (.lst (W16 c ptl)), cell psm (.lst (sm.map V.str)), cell pfs (.lst (fn.map V.str)), cell ptl (.lst [V.str "till"]), cell pb (.lst [V.ref b0, V.ref b1]), cell pk (.lst [V.ref k0, V.ref k1]), Sq K a (ns.map V.int)]) ?_ ?_
    · w_means
      refine ite_dec (fun c1 => ?_) (fun c1 => ?_)
      · w_means
        refine ⟨by show 6 ≤ sizeLine; decide, fun p2 => ?_⟩
        w_means
        obtain ⟨y, hy1, hy2⟩ := atI_in (xs := A6) (i := cc / 23760 % 6) (Int.emod_nonneg _ (by decide)) (Int.emod_lt_of_pos _ (by decide))
        obtain ⟨t, ht⟩ := A6_ok hy2
        refine wr_ixL (xs := A6) (.c .here) hy1 ?_
        w_means
        exact ⟨y, t, ht, rfl, Ent.trans .drop .drop⟩
      · w_means
        exact ⟨_, _, fun L => .int _, rfl, .drop⟩
    rintro σ' L' ⟨y, tyy, hyt, rfl, hE2⟩
    refine wps_ent hE2 ?_
    clear hE2
    close_w
    refine wps_cut (fun σ' L' => ∃ (l2 l3 : AL), GoodL c l2 (i + 1) ∧ GoodL c l3 (i + 1) ∧ σ' = [some (.ref a), some (.ref pb), some (.ref pk), some (.ref ph), some (.int un), some (.int 30), some (.ref p16), some (.int (i : Int)), some (.ref pfs), some (.ref psm), some (.int cc), some (.int wy), some x, some y, v6, v7] ∧ Ent L' [heldA ph n, purA K b0 l2, purA K b1 l3, cell k0 (.dK (kvI l2)), cell k1 (.dK (kvI l3)), cell p16 (.lst (W16 c ptl)), cell psm (.lst (sm.map V.str)), cell pfs (.lst (fn.map V.str)), cell ptl (.lst [V.str "till"]), cell pb (.lst [V.ref b0, V.ref b1]), cell pk (.lst [V.ref k0, V.ref k1]), Sq K a (ns.map V.int)]) ?_ ?_
    · w_means
      have hp : (i : Int) % 2 = 0 ∨ (i : Int) % 2 = 1 := by omega
      rcases hp with hp | hp
      · have hz := hg0.2
        rw [hp]
        refine wr_ixL (v := .ref b0) (.c (by w_fin)) rfl ?_
        w_means
        obtain ⟨t1, ht1⟩ := hxt [heldA ph n, purA K b1 l1, cell k0 (.dK (kvI l0)), cell k1 (.dK (kvI l1)), cell p16 (.lst (W16 c ptl)), cell psm (.lst (sm.map V.str)), cell pfs (.lst (fn.map V.str)), cell ptl (.lst [V.str "till"]), cell pb (.lst [V.ref b0, V.ref b1]), cell pk (.lst [V.ref k0, V.ref k1]), Sq K a (ns.map V.int)] (by w_fin)
        refine wpf_ent (L1 := purA K b0 l0 :: [heldA ph n, purA K b1 l1, cell k0 (.dK (kvI l0)), cell k1 (.dK (kvI l1)), cell p16 (.lst (W16 c ptl)), cell psm (.lst (sm.map V.str)), cell pfs (.lst (fn.map V.str)), cell ptl (.lst [V.str "till"]), cell pb (.lst [V.ref b0, V.ref b1]), cell pk (.lst [V.ref k0, V.ref k1]), Sq K a (ns.map V.int)]) (by o_reads) (wpf_spc ⟨b0, wy, x, y, t1, tyy, l0, _, rfl, rfl, hwy, by omega, ht1, hxs, hyt _, ?_⟩)
        w_means
        rw [hp]
        refine wr_ixL (v := .ref k0) (.c (by w_fin)) rfl ?_
        w_means
        obtain ⟨t2, ht2⟩ := hxt [purA K b0 (dueM l0 wy x y).2, heldA ph n, purA K b1 l1, cell k1 (.dK (kvI l1)), cell p16 (.lst (W16 c ptl)), cell psm (.lst (sm.map V.str)), cell pfs (.lst (fn.map V.str)), cell ptl (.lst [V.str "till"]), cell pb (.lst [V.ref b0, V.ref b1]), cell pk (.lst [V.ref k0, V.ref k1]), Sq K a (ns.map V.int)] (by w_fin)
        refine wpf_ent (L1 := cell k0 (.dK (kvI l0)) :: [purA K b0 (dueM l0 wy x y).2, heldA ph n, purA K b1 l1, cell k1 (.dK (kvI l1)), cell p16 (.lst (W16 c ptl)), cell psm (.lst (sm.map V.str)), cell pfs (.lst (fn.map V.str)), cell ptl (.lst [V.str "till"]), cell pb (.lst [V.ref b0, V.ref b1]), cell pk (.lst [V.ref k0, V.ref k1]), Sq K a (ns.map V.int)]) (by o_reads) (wpf_spc ⟨k0, wy, x, y, t2, tyy, l0, _, rfl, rfl, hwy, by omega, ht2, hxs, hyt _, ?_⟩)
        refine wr_ne (dueM_scal _ _ _ _) ?_
        w_means
        refine ite_n (by simp) ?_
        w_means
        exact ⟨(dueM l0 wy x y).2, l1, due_good hg0 hxw, hg1.up (by omega), rfl, by o_reads⟩
      · have hz := hg1.2
        rw [hp]
        refine wr_ixL (v := .ref b1) (.c (by w_fin)) rfl ?_
        w_means
        obtain ⟨t1, ht1⟩ := hxt [heldA ph n, purA K b0 l0, cell k0 (.dK (kvI l0)), cell k1 (.dK (kvI l1)), cell p16 (.lst (W16 c ptl)), cell psm (.lst (sm.map V.str)), cell pfs (.lst (fn.map V.str)), cell ptl (.lst [V.str "till"]), cell pb (.lst [V.ref b0, V.ref b1]), cell pk (.lst [V.ref k0, V.ref k1]), Sq K a (ns.map V.int)] (by w_fin)
        refine wpf_ent (L1 := purA K b1 l1 :: [heldA ph n, purA K b0 l0, cell k0 (.dK (kvI l0)), cell k1 (.dK (kvI l1)), cell p16 (.lst (W16 c ptl)), cell psm (.lst (sm.map V.str)), cell pfs (.lst (fn.map V.str)), cell ptl (.lst [V.str "till"]), cell pb (.lst [V.ref b0, V.ref b1]), cell pk (.lst [V.ref k0, V.ref k1]), Sq K a (ns.map V.int)]) (by o_reads) (wpf_spc ⟨b1, wy, x, y, t1, tyy, l1, _, rfl, rfl, hwy, by omega, ht1, hxs, hyt _, ?_⟩)
        w_means
        rw [hp]
        refine wr_ixL (v := .ref k1) (.c (by w_fin)) rfl ?_
        w_means
        obtain ⟨t2, ht2⟩ := hxt [purA K b1 (dueM l1 wy x y).2, heldA ph n, purA K b0 l0, cell k0 (.dK (kvI l0)), cell p16 (.lst (W16 c ptl)), cell psm (.lst (sm.map V.str)), cell pfs (.lst (fn.map V.str)), cell ptl (.lst [V.str "till"]), cell pb (.lst [V.ref b0, V.ref b1]), cell pk (.lst [V.ref k0, V.ref k1]), Sq K a (ns.map V.int)] (by w_fin)
        refine wpf_ent (L1 := cell k1 (.dK (kvI l1)) :: [purA K b1 (dueM l1 wy x y).2, heldA ph n, purA K b0 l0, cell k0 (.dK (kvI l0)), cell p16 (.lst (W16 c ptl)), cell psm (.lst (sm.map V.str)), cell pfs (.lst (fn.map V.str)), cell ptl (.lst [V.str "till"]), cell pb (.lst [V.ref b0, V.ref b1]), cell pk (.lst [V.ref k0, V.ref k1]), Sq K a (ns.map V.int)]) (by o_reads) (wpf_spc ⟨k1, wy, x, y, t2, tyy, l1, _, rfl, rfl, hwy, by omega, ht2, hxs, hyt _, ?_⟩)
        refine wr_ne (dueM_scal _ _ _ _) ?_
        w_means
        refine ite_n (by simp) ?_
        w_means
        exact ⟨l0, (dueM l1 wy x y).2, hg0.up (by omega), due_good hg1 hxw, rfl, by o_reads⟩
    rintro σ' L' ⟨l2, l3, hg2, hg3, rfl, hE2⟩
    refine wps_ent hE2 ?_
    clear hE2 hg0 hg1 l0 l1
    have hz2 := hg2.2
    have hz3 := hg3.2
    refine wps_forR1 (wpa_cons (wpe_c (wpa_nil ⟨2, rfl, by decide, fun j σ' L' => ∃ v6 : Option V, σ' = [some (.ref a), some (.ref pb), some (.ref pk), some (.ref ph), some (.int un), some (.int 30), some (.ref p16), some (.int (i : Int)), some (.ref pfs), some (.ref psm), some (.int cc), some (.int wy), some x, some y, v6, v7] ∧ L' = [heldA ph (n + 1000 * j), purA K b0 l2, purA K b1 l3, cell k0 (.dK (kvI l2)), cell k1 (.dK (kvI l3)), cell p16 (.lst (W16 c ptl)), cell psm (.lst (sm.map V.str)), cell pfs (.lst (fn.map V.str)), cell ptl (.lst [V.str "till"]), cell pb (.lst [V.ref b0, V.ref b1]), cell pk (.lst [V.ref k0, V.ref k1]), Sq K a (ns.map V.int)], ?_, ?_, ?_⟩)))
    · exact .of ⟨v6, rfl, rfl⟩
    · rintro j σ' L' hj ⟨v6, rfl, rfl⟩
      have hj2 : j = 0 ∨ j = 1 := by omega
      rcases hj2 with rfl | rfl
      · w_means
        refine wr_ixL (v := .ref b0) (.c (by w_fin)) rfl ?_
        w_means
        refine wr_ixL (v := .ref k0) (.c (by w_fin)) rfl ?_
        w_means
        refine wr_ixL (.q (by w_fin)) hcell ?_
        w_means
        refine wpf_spc ⟨_, _, rfl, ?_⟩
        w_means
        refine wpf_ent (L1 := purA K b0 l2 :: cell k0 (.dK (kvI l2)) :: heldA ph (n + 1000 * 0) :: [purA K b1 l3, cell k1 (.dK (kvI l3)), cell p16 (.lst (W16 c ptl)), cell psm (.lst (sm.map V.str)), cell pfs (.lst (fn.map V.str)), cell ptl (.lst [V.str "till"]), cell pb (.lst [V.ref b0, V.ref b1]), cell pk (.lst [V.ref k0, V.ref k1]), Sq K a (ns.map V.int)]) (by o_reads) (wpf_spc ⟨b0, k0, psm, ph, _, l2, sm, n + 1000 * 0, _, rfl, rfl, .c (by w_fin), smz, hg2.ok, by omega, by omega, ?_⟩)
        w_means
        refine ⟨_, ?_, _, rfl, rfl⟩
        o_reads
      · w_means
        refine wr_ixL (v := .ref b1) (.c (by w_fin)) rfl ?_
        w_means
        refine wr_ixL (v := .ref k1) (.c (by w_fin)) rfl ?_
        w_means
        refine wr_ixL (.q (by w_fin)) hcell ?_
        w_means
        refine wpf_spc ⟨_, _, rfl, ?_⟩
        w_means
        refine wpf_ent (L1 := purA K b1 l3 :: cell k1 (.dK (kvI l3)) :: heldA ph (n + 1000 * 1) :: [purA K b0 l2, cell k0 (.dK (kvI l2)), cell p16 (.lst (W16 c ptl)), cell psm (.lst (sm.map V.str)), cell pfs (.lst (fn.map V.str)), cell ptl (.lst [V.str "till"]), cell pb (.lst [V.ref b0, V.ref b1]), cell pk (.lst [V.ref k0, V.ref k1]), Sq K a (ns.map V.int)]) (by o_reads) (wpf_spc ⟨b1, k1, psm, ph, _, l3, sm, n + 1000 * 1, _, rfl, rfl, .c (by w_fin), smz, hg3.ok, by omega, by omega, ?_⟩)
        w_means
        refine ⟨_, ?_, _, rfl, rfl⟩
        o_reads
    · rintro σ' L' ⟨v6, rfl, rfl⟩
      exact .of ⟨n + 1000 * 2, l2, l3, _, _, _, _, _, _, _, by omega, hg2, hg3, rfl, rfl⟩
  rintro σ' L' ⟨n, l0, l1, v1, v2, v3, v4, v5, v6, v7, hn, hg0, hg1, rfl, rfl⟩
  have hn2 : n ≤ 60000 := by omega
  have hg0 := hg0.up (j := 30) (by omega)
  have hg1 := hg1.up (j := 30) (by omega)
  have hz0 := hg0.2
  have hz1 := hg1.2
  clear hn
  w_means
  refine wr_ixL (v := .ref b0) (.c (by w_fin)) rfl ?_
  w_means
  refine wr_ixL (v := .ref k0) (.c (by w_fin)) rfl ?_
  w_means
  refine wpf_ent (L1 := purA K b0 l0 :: cell k0 (.dK (kvI l0)) :: heldA ph n :: [purA K b1 l1, cell k1 (.dK (kvI l1)), cell p16 (.lst (W16 c ptl)), cell psm (.lst (sm.map V.str)), cell pfs (.lst (fn.map V.str)), cell ptl (.lst [V.str "till"]), cell pb (.lst [V.ref b0, V.ref b1]), cell pk (.lst [V.ref k0, V.ref k1]), Sq K a (ns.map V.int)]) (by o_reads) (wpf_spc ⟨b0, k0, pfs, ph, _, l0, fn, n, _, rfl, rfl, .c (by w_fin), by omega, hg0.ok, by omega, by omega, ?_⟩)
  w_means
  refine wr_ixL (v := .ref b1) (.c (by w_fin)) rfl ?_
  w_means
  refine wr_ixL (v := .ref k1) (.c (by w_fin)) rfl ?_
  w_means
  refine wpf_ent (L1 := purA K b1 l1 :: cell k1 (.dK (kvI l1)) :: heldA ph (n + 1000) :: [purA K b0 l0, cell k0 (.dK (kvI l0)), cell p16 (.lst (W16 c ptl)), cell psm (.lst (sm.map V.str)), cell pfs (.lst (fn.map V.str)), cell ptl (.lst [V.str "till"]), cell pb (.lst [V.ref b0, V.ref b1]), cell pk (.lst [V.ref k0, V.ref k1]), Sq K a (ns.map V.int)]) (by o_reads) (wpf_spc ⟨b1, k1, psm, ph, _, l1, sm, n + 1000, _, rfl, rfl, .c (by w_fin), smz, hg1.ok, by omega, by omega, ?_⟩)
  w_means
  refine wpe_ent (L1 := heldA ph (n + 1000 + 1000) :: purA K b0 l0 :: purA K b1 l1 :: [cell p16 (.lst (W16 c ptl)), cell psm (.lst (sm.map V.str)), cell pfs (.lst (fn.map V.str)), cell ptl (.lst [V.str "till"]), cell pb (.lst [V.ref b0, V.ref b1]), cell pk (.lst [V.ref k0, V.ref k1]), Sq K a (ns.map V.int)]) (by o_reads) (wpe_held fun hs hsz hok => ?_)
  refine wpe_ent (L1 := purA K b0 l0 :: cell ph (.lst (hdV hs)) :: Shs (hdO hs) :: purA K b1 l1 :: [cell p16 (.lst (W16 c ptl)), cell psm (.lst (sm.map V.str)), cell pfs (.lst (fn.map V.str)), cell ptl (.lst [V.str "till"]), cell pb (.lst [V.ref b0, V.ref b1]), cell pk (.lst [V.ref k0, V.ref k1]), Sq K a (ns.map V.int)]) (by o_reads) (wpe_purA fun dx pf pa pp => ?_)
  w_means
  refine wpe_lcP (wpe_var rfl ⟨ph, hdV hs, rfl, .c (by w_fin), by unfold hdV; rw [List.length_map]; omega, fun _ => false, id, ?_, ?_⟩)
  · rintro D acc x hx
    obtain ⟨⟨t, p, q, xs⟩, ht, rfl⟩ := List.mem_map.mp hx
    obtain ⟨m1, m2, m3⟩ := hdO_mem ht
    w_means
    refine ⟨rfl, ?_⟩
    w_means
    refine wr_ixT (v := .ref p) (.m (by w_fin) m1) rfl ?_
    w_means
    refine wr_ixT (v := .ref q) (.m (by w_fin) m1) rfl ?_
    refine wr_neSame (xs := xs) (.m (by w_fin) m2) (.m (by w_fin) m3) (hok _ ht) ?_
    w_means
    exact ⟨rfl, .refl _⟩
  intro D
  rw [show ((hdV hs).filter (fun _ => false)).map id = ([] : List Str).map V.str by simp]
  w_means
  refine ⟨by decide, fun q9 => ?_⟩
  w_means
  refine wr_neSame (xs := []) (.c (by w_fin)) (.c .here) (fun _ m => nomatch m) ?_
  w_means
  refine wpe_fld ?_
  w_means
  refine wr_ixL (v := .ref b0) (.c (by w_fin)) rfl ?_
  refine ⟨b0, _, dx, _, .int 0, rfl, by w_fin, (T.cls 30), (T.noat 32), rfl, ?_⟩
  w_means
  refine wr_ixL (v := .ref b1) (.c (by w_fin)) rfl ?_
  w_means
  refine wpf_ent (L1 := [purA K b1 l1]) (by o_reads) (wpf_spc ⟨b1, _, l1, _, rfl, rfl, north_out hg1, ?_⟩)
  exact ⟨_, .refl _, hk _⟩
end
end Q

namespace Q
open PySem PySem.Spec PyProof.Rows L2
def loose : List Str := (["_wall", "BookError", "NoName", "NoAmount", "Taken", "NoPurse", "TooLittle", "NoRow", "Twice", "Uneven", "Fallen", "NoDay", "LETTERS", "LONGEST", "MOST", "is_whole", "name_of", "amount_of", "day_of", "MOST_THINGS"] : List Str) ++ (["Pact", "shares_of", "need_even", "needs_of", "Book", "_law_whole", "_law_cell_at", "_law_mixed", "_law_word", "_law_is_name", "_law_told", "_law_due", "_law_one_same", "_law_same", "_law_refused_by_any", "_law_opened"] : List Str)
abbrev R : PySem.W.OpenRow := PySem.W.OpenLaw.row PySem.Challenge.rw_escrowbook_k07_purses
abbrev hk : PySem.W.Hook := hookM 5 fa fn fm
def ob (s : PySem.W.SharedT) : He.AlD × Bool := obsM 5 fa fn fm (HandSHeadRun.getT s)
theorem ob_eq (s : PySem.W.SharedT) : ob s = hk.obs s.abs := obsM_eq (HandSHeadRun.getT_eq s)
theorem run (w : World) : HandSHeadRun.RunEq R (PySem.W.view R.prog [41]) hk ob 14000 loose w := by
  intro os
  kernel_rfl
theorem facts {P : Program} {w : World} {K : PySem.W.Frag} {h : Heap} {mg : Str → Option Value} {f : Addr} (X : K.In h) (G : h.Ns mainGlobals mg) (hfa : mg ("law" : Str) = some (.ref f)) (c : He.SaysD fa fn K) (c2 : (fm.all fun f => f.ok K) = true) :
    ∃ fd : FuncData, (∀ (s : Shared) (v : Value), BindsTo s fd ⟨[v], []⟩ [("_law_script", v)]) ∧ ∀ base : Heap, K.In base → base.Ns mainGlobals mg → FnOk P w K mg base CX0 8 f fd ["_law_script"] (Spc (B_law K)) := by
  have T : TT K mg := ⟨⟨h, X, G, c⟩, c2⟩
  have e := hfa.symm.trans (T.glo 18)
  cases e
  obtain ⟨fd, F⟩ := T.df 29 (d := d_law)
  have b := FunD.bindsA (ps := ["_law_script"]) F fun _ _ _ _ _ _ us hl => match us, hl with | [_], _ => rfl
  exact ⟨fd, fun s v => b s [v] rfl, fun base _ _ => okD_law T F⟩
end Q
open PySem PySem.W PySem.Calls PyProof.Rows
set_option maxRecDepth 100000 in
set_option maxHeartbeats 0 in
theorem PySem.Challenge.cw_escrowbook_k07_purses_holds : PySem.Challenge.rw_escrowbook_k07_purses.Holds := by
  w_on; o_law
  refine HandSHeadRun.head_any (r := OpenLaw.row PySem.Challenge.rw_escrowbook_k07_purses) (q := view (OpenLaw.row PySem.Challenge.rw_escrowbook_k07_purses).prog [41]) (H := Q.hk) (ob := Q.ob) (M := 14000) (loose := Q.loose) (d := HandSHeadRun.topDef (OpenLaw.row PySem.Challenge.rw_escrowbook_k07_purses).prog 41) (kwd := []) Q.ob_eq
    (by kernel_rfl) (fun s => by kernel_rfl) Q.run (by kernel_rfl) (by kernel_rfl) (by kernel_rfl) (by rfl) (by first | assumption | decide +kernel) (by decide +kernel) ⟨rfl, rfl, rfl, rfl, rfl, by decide +kernel⟩ ?hw ?hc
  case hw => w_witness2
  case hc =>
    refine L2.walk_ofE (l := PySem.Challenge.rw_escrowbook_k07_purses) (n := 63) (k := 8) (x := "_law_script") (CX := L2.CX0) rfl (by decide) (by kernel_rfl) ⟨rfl, by decide, by decide⟩ ?F (fun _ _ _ _ z => z)
    intro w mg fa h Y G hmg0
    obtain ⟨K, KX, c, c2⟩ := Y
    have hmg : mg ("law" : PySem.Str) = some (.ref fa) := by
      have e : (HandSHeadRun.topDef (OpenLaw.row PySem.Challenge.rw_escrowbook_k07_purses).prog 41).name = ("law" : PySem.Str) := by kernel_rfl
      rw [← e]
      exact hmg0
    obtain ⟨fd, hb, hF⟩ := Q.facts (P := (PySem.Challenge.rw_escrowbook_k07_purses).prog) (w := w) KX G hmg c c2
    exact ⟨K, fd, Q.Spc (Q.B_law K), KX, hb, fun H a ns hl _ hS => Q.law_sp hl hS, hF⟩
#print axioms PySem.Challenge.cw_escrowbook_k07_purses_holds
