import PyProof.Rows.All
import Wide.All
import OpenK.AllK
import Wide.FinOn
import HandS.ForMost
import HandS.ForExc
import HandS.CallSlots
import HandS.Wide
import HandS.Deep
import HandS.TupAny
import HandS.NoneIn
import HandS.Flow
import HandS.IsInst
import HandS.More
import HandS.WordsDict
import KE.SortData
import KE.KDictSum
import KE.KDictCopyH
import HandS.Conv
import HandS.SortInts
import HandS.DictTup
import KE.KDictPairs
import KE.KDictKeyed
import HandS.Style
import HandS.Codes
import HandS.Ends
import HandS.Words
import HandS.WordsExc
import HandS.Defaults
import HandS.Head0
import HandS.Head1
import HandS.Head2
import HandS.HeadEnd
import HandS.HeadHook1
import HandS.HeadHook2
import HandS.HeadHook3
import HandS.HeadHook4
import HandS.RaiseMore
import HandS.Text
import HandS.ReplaceLit
import PyProof.StrReplace2
import KE.KRevSl
import HandS.TupMul
import HandS.ExcInit
import HandS.ExcIs
import HandS.ExcField
import HandS.ExcValue
import HandS.Small
import KE.KExcIs
import PySem.Challenge.RW_cutstree_k90_classes
set_option Elab.async false
set_option linter.all false
set_option maxRecDepth 100000
set_option maxHeartbeats 4000000
namespace L3
open PySem PySem.Spec L2
open PyProof.Rows hiding St
/-- a value as a tree: a tuple by its items (kt: one that may be a key), a list that nobody changes any more by its items (lst), what may change by its address -/
inductive U where
  | non | bl (b : Bool) | int (i : Int) | str (x : Str) | ty (n : String) | ref (a : Addr)
  | tup (xs : List U) | kt (xs : List U) | lst (xs : List U)
mutual
def U.dec : (a b : U) → Decidable (a = b)
  | .non, .non => Decidable.isTrue rfl
  | .bl a, .bl b => if h : a = b then Decidable.isTrue (by rw [h]) else Decidable.isFalse (by intro e; cases e; exact h rfl)
  | .int a, .int b => if h : a = b then Decidable.isTrue (by rw [h]) else Decidable.isFalse (by intro e; cases e; exact h rfl)
  | .str a, .str b => if h : a = b then Decidable.isTrue (by rw [h]) else Decidable.isFalse (by intro e; cases e; exact h rfl)
  | .ty a, .ty b => if h : a = b then Decidable.isTrue (by rw [h]) else Decidable.isFalse (by intro e; cases e; exact h rfl)
  | .ref a, .ref b => if h : a = b then Decidable.isTrue (by rw [h]) else Decidable.isFalse (by intro e; cases e; exact h rfl)
  | .tup a, .tup b => match U.decL a b with
    | Decidable.isTrue h => Decidable.isTrue (by rw [h])
    | Decidable.isFalse h => Decidable.isFalse (by intro e; cases e; exact h rfl)
  | .kt a, .kt b => match U.decL a b with
    | Decidable.isTrue h => Decidable.isTrue (by rw [h])
    | Decidable.isFalse h => Decidable.isFalse (by intro e; cases e; exact h rfl)
  | .lst a, .lst b => match U.decL a b with
    | Decidable.isTrue h => Decidable.isTrue (by rw [h])
    | Decidable.isFalse h => Decidable.isFalse (by intro e; cases e; exact h rfl)
  | .non, .bl _ | .non, .int _ | .non, .str _ | .non, .ty _ | .non, .ref _ | .non, .tup _ | .non, .kt _ | .non, .lst _ => Decidable.isFalse nofun
  | .bl _, .non | .bl _, .int _ | .bl _, .str _ | .bl _, .ty _ | .bl _, .ref _ | .bl _, .tup _ | .bl _, .kt _ | .bl _, .lst _ => Decidable.isFalse nofun
  | .int _, .non | .int _, .bl _ | .int _, .str _ | .int _, .ty _ | .int _, .ref _ | .int _, .tup _ | .int _, .kt _ | .int _, .lst _ => Decidable.isFalse nofun
  | .str _, .non | .str _, .bl _ | .str _, .int _ | .str _, .ty _ | .str _, .ref _ | .str _, .tup _ | .str _, .kt _ | .str _, .lst _ => Decidable.isFalse nofun
  | .ty _, .non | .ty _, .bl _ | .ty _, .int _ | .ty _, .str _ | .ty _, .ref _ | .ty _, .tup _ | .ty _, .kt _ | .ty _, .lst _ => Decidable.isFalse nofun
  | .ref _, .non | .ref _, .bl _ | .ref _, .int _ | .ref _, .str _ | .ref _, .ty _ | .ref _, .tup _ | .ref _, .kt _ | .ref _, .lst _ => Decidable.isFalse nofun
  | .tup _, .non | .tup _, .bl _ | .tup _, .int _ | .tup _, .str _ | .tup _, .ty _ | .tup _, .ref _ | .tup _, .kt _ | .tup _, .lst _ => Decidable.isFalse nofun
  | .kt _, .non | .kt _, .bl _ | .kt _, .int _ | .kt _, .str _ | .kt _, .ty _ | .kt _, .ref _ | .kt _, .tup _ | .kt _, .lst _ => Decidable.isFalse nofun
  | .lst _, .non | .lst _, .bl _ | .lst _, .int _ | .lst _, .str _ | .lst _, .ty _ | .lst _, .ref _ | .lst _, .tup _ | .lst _, .kt _ => Decidable.isFalse nofun
def U.decL : (a b : List U) → Decidable (a = b)
  | [], [] => Decidable.isTrue rfl
  | [], _ :: _ => Decidable.isFalse nofun
  | _ :: _, [] => Decidable.isFalse nofun
  | x :: xs, y :: ys => match U.dec x y, U.decL xs ys with
    | Decidable.isTrue h1, Decidable.isTrue h2 => Decidable.isTrue (by rw [h1, h2])
    | Decidable.isFalse h, _ => Decidable.isFalse (by intro e; cases e; exact h rfl)
    | _, Decidable.isFalse h => Decidable.isFalse (by intro e; cases e; exact h rfl)
end
instance : DecidableEq U := U.dec
abbrev Frag := PySem.W.Frag
/-- a list that stands still -/
def FzL (K : Frag) (H : Hp) (a : Addr) (xs : List V) : Prop :=
  (∃ o, H a = some (.frz o (.lst xs))) ∨
    ∃ (o : Obj) (its : Array Value) (n : Nat), K.lookup a = some o ∧ o.cls = .type "list" ∧ o.dict = none ∧ o.data = .seq its n ∧ its.size ≤ sizeLine ∧ Vals xs its.toList
theorem FzL.seq {K : Frag} {H : Hp} {a : Addr} {xs : List V} (h : FzL K H a xs) : SqL K H a xs := by
  rcases h with h | h
  · exact .inl (.inr h)
  · exact .inr h
mutual
def Rep (K : Frag) (H : Hp) : U → V → Prop
  | .non, v => v = .non
  | .bl b, v => v = .bl b
  | .int i, v => v = .int i
  | .str x, v => v = .str x
  | .ty n, v => v = .ty n
  | .ref a, v => v = .ref a
  | .tup xs, v => ∃ a vs, v = .ref a ∧ SqT K H a vs ∧ RepL K H xs vs
  | .kt xs, v => ∃ a vs, v = .ref a ∧ H a = some (.tup vs) ∧ RepL K H xs vs
  | .lst xs, v => ∃ a vs, v = .ref a ∧ FzL K H a vs ∧ RepL K H xs vs
def RepL (K : Frag) (H : Hp) : List U → List V → Prop
  | [], vs => vs = []
  | x :: xs, vs => ∃ v r, vs = v :: r ∧ Rep K H x v ∧ RepL K H xs r
end
/-- what is kept of the heap whatever happens: tuples, what stands still -/
structure TK (H H' : Hp) : Prop where
  tup : ∀ a xs, H a = some (.tup xs) → H' a = some (.tup xs)
  frz : ∀ a o u, H a = some (.frz o u) → H' a = some (.frz o u)
theorem TK.refl (H : Hp) : TK H H := ⟨fun _ _ h => h, fun _ _ _ h => h⟩
theorem TK.trans {H H1 H2 : Hp} (a : TK H H1) (b : TK H1 H2) : TK H H2 := ⟨fun c xs h => b.tup c xs (a.tup c xs h), fun c o u h => b.frz c o u (a.frz c o u h)⟩
theorem TK.new {H : Hp} {p : Addr} {o : HO} (h : H p = none) : TK H (upd H p o) :=
  ⟨fun a xs e => by rw [upd_ne (ne_of_none e h)]; exact e, fun a o u e => by rw [upd_ne (ne_of_none e h)]; exact e⟩
theorem TK.wr {H : Hp} {p : Addr} {o u : HO} (h : H p = some u) (h1 : ∀ xs, u ≠ .tup xs) (h2 : ∀ o x, u ≠ .frz o x) : TK H (upd H p o) :=
  ⟨fun a xs e => by rw [upd_ne (fun z => by rw [z, h] at e; cases e; exact h1 _ rfl)]; exact e, fun a o u e => by rw [upd_ne (fun z => by rw [z, h] at e; cases e; exact h2 _ _ rfl)]; exact e⟩
theorem TK.seqT {K : Frag} {H H' : Hp} {a : Addr} {xs : List V} (k : TK H H') (h : SqT K H a xs) : SqT K H' a xs := by
  rcases h with (h | ⟨o, h⟩) | h
  · exact .inl (.inl (k.tup _ _ h))
  · exact .inl (.inr ⟨o, k.frz _ _ _ h⟩)
  · exact .inr h
theorem TK.fzl {K : Frag} {H H' : Hp} {a : Addr} {xs : List V} (k : TK H H') (h : FzL K H a xs) : FzL K H' a xs := by
  rcases h with ⟨o, h⟩ | h
  · exact .inl ⟨o, k.frz _ _ _ h⟩
  · exact .inr h
mutual
theorem Rep.keep {K : Frag} {H H' : Hp} (k : TK H H') : ∀ {u : U} {v : V}, Rep K H u v → Rep K H' u v
  | .non, _, h => by simp only [Rep] at h ⊢; exact h
  | .bl _, _, h => by simp only [Rep] at h ⊢; exact h
  | .int _, _, h => by simp only [Rep] at h ⊢; exact h
  | .str _, _, h => by simp only [Rep] at h ⊢; exact h
  | .ty _, _, h => by simp only [Rep] at h ⊢; exact h
  | .ref _, _, h => by simp only [Rep] at h ⊢; exact h
  | .tup xs, _, h => by
    simp only [Rep] at h ⊢
    obtain ⟨a, vs, e, s, r⟩ := h
    exact ⟨a, vs, e, k.seqT s, RepL.keep k r⟩
  | .kt xs, _, h => by
    simp only [Rep] at h ⊢
    obtain ⟨a, vs, e, s, r⟩ := h
    exact ⟨a, vs, e, k.tup _ _ s, RepL.keep k r⟩
  | .lst xs, _, h => by
    simp only [Rep] at h ⊢
    obtain ⟨a, vs, e, s, r⟩ := h
    exact ⟨a, vs, e, k.fzl s, RepL.keep k r⟩
theorem RepL.keep {K : Frag} {H H' : Hp} (k : TK H H') : ∀ {us : List U} {vs : List V}, RepL K H us vs → RepL K H' us vs
  | [], _, h => by simp only [RepL] at h ⊢; exact h
  | x :: xs, _, h => by
    simp only [RepL] at h ⊢
    obtain ⟨v, r, e, h1, h2⟩ := h
    exact ⟨v, r, e, Rep.keep k h1, RepL.keep k h2⟩
end
section
variable {K : Frag} {H H' : Hp} {u : U} {us ws : List U} {v : V} {vs zs : List V}
theorem RepL.nil : RepL K H [] [] := by simp only [RepL]
theorem RepL.cons (h : Rep K H u v) (t : RepL K H us vs) : RepL K H (u :: us) (v :: vs) := by simp only [RepL]; exact ⟨v, vs, rfl, h, t⟩
theorem RepL.len : ∀ {us : List U} {vs : List V}, RepL K H us vs → us.length = vs.length
  | [], _, h => by simp only [RepL] at h; subst h; rfl
  | x :: xs, _, h => by
    simp only [RepL] at h
    obtain ⟨v, r, rfl, _, t⟩ := h
    rw [List.length_cons, List.length_cons, RepL.len t]
theorem RepL.get : ∀ {us : List U} {vs : List V} {i : Nat} {u : U}, RepL K H us vs → us[i]? = some u → ∃ v, vs[i]? = some v ∧ Rep K H u v
  | [], _, i, u, _, e => by simp at e
  | x :: xs, _, 0, u, h, e => by
    simp only [RepL] at h
    obtain ⟨v, r, rfl, h1, t⟩ := h
    cases e
    exact ⟨v, rfl, h1⟩
  | x :: xs, _, i + 1, u, h, e => by
    simp only [RepL] at h
    obtain ⟨v, r, rfl, h1, t⟩ := h
    simpa using RepL.get t (by simpa using e)
theorem RepL.app : ∀ {us : List U} {vs : List V}, RepL K H us vs → RepL K H ws zs → RepL K H (us ++ ws) (vs ++ zs)
  | [], _, h, t => by simp only [RepL] at h; subst h; exact t
  | x :: xs, _, h, t => by
    simp only [RepL] at h
    obtain ⟨v, r, rfl, h1, h2⟩ := h
    exact .cons h1 (RepL.app h2 t)
theorem RepL.take : ∀ {us : List U} {vs : List V} (n : Nat), RepL K H us vs → RepL K H (us.take n) (vs.take n)
  | _, _, 0, _ => by simp only [List.take_zero]; exact .nil
  | [], _, n + 1, h => by simp only [RepL] at h; subst h; simpa using RepL.nil
  | x :: xs, _, n + 1, h => by
    simp only [RepL] at h
    obtain ⟨v, r, rfl, h1, h2⟩ := h
    exact .cons h1 (RepL.take n h2)
theorem RepL.drop : ∀ {us : List U} {vs : List V} (n : Nat), RepL K H us vs → RepL K H (us.drop n) (vs.drop n)
  | _, _, 0, h => h
  | [], _, n + 1, h => by simp only [RepL] at h; subst h; simpa using RepL.nil
  | x :: xs, _, n + 1, h => by
    simp only [RepL] at h
    obtain ⟨v, r, rfl, h1, h2⟩ := h
    exact RepL.drop n h2
theorem RepL.set (hu : Rep K H u v) : ∀ {us : List U} {vs : List V} (n : Nat), RepL K H us vs → RepL K H (us.set n u) (vs.set n v)
  | [], _, n, h => by simp only [RepL] at h; subst h; simpa using RepL.nil
  | x :: xs, _, 0, h => by
    simp only [RepL] at h
    obtain ⟨v, r, rfl, h1, h2⟩ := h
    exact .cons hu h2
  | x :: xs, _, n + 1, h => by
    simp only [RepL] at h
    obtain ⟨v, r, rfl, h1, h2⟩ := h
    exact .cons h1 (RepL.set hu n h2)
theorem RepL.rev {us : List U} {vs : List V} (h : RepL K H us vs) : RepL K H us.reverse vs.reverse := by
  induction us generalizing vs with
  | nil => simp only [RepL] at h; subst h; exact .nil
  | cons x xs ih =>
    simp only [RepL] at h
    obtain ⟨v, r, rfl, h1, h2⟩ := h
    rw [List.reverse_cons, List.reverse_cons]
    exact (ih h2).app (.cons h1 .nil)
theorem RepL.erase : ∀ {us : List U} {vs : List V} (n : Nat), RepL K H us vs → RepL K H (us.eraseIdx n) (vs.eraseIdx n)
  | [], _, n, h => by simp only [RepL] at h; subst h; simpa using RepL.nil
  | x :: xs, _, 0, h => by
    simp only [RepL] at h
    obtain ⟨v, r, rfl, h1, h2⟩ := h
    exact h2
  | x :: xs, _, n + 1, h => by
    simp only [RepL] at h
    obtain ⟨v, r, rfl, h1, h2⟩ := h
    exact .cons h1 (RepL.erase n h2)
theorem RepL.dropLast {us : List U} {vs : List V} (h : RepL K H us vs) : RepL K H us.dropLast vs.dropLast := by
  rw [List.dropLast_eq_take, List.dropLast_eq_take, h.len]
  exact h.take _
theorem RepL.ofGet : ∀ {us : List U} {vs : List V}, us.length = vs.length → (∀ (i : Nat) u v, us[i]? = some u → vs[i]? = some v → Rep K H u v) → RepL K H us vs
  | [], [], _, _ => .nil
  | [], _ :: _, h, _ => by simp at h
  | _ :: _, [], h, _ => by simp at h
  | x :: xs, y :: ys, h, k => .cons (k 0 x y rfl rfl) (RepL.ofGet (by simpa using h) fun i u v e1 e2 => k (i + 1) u v (by simpa using e1) (by simpa using e2))
end

/-! ### what may change -/
inductive MO where
  | lst (xs : List U)
  /-- a dict; tk: its keys are tuples (else ints, texts); lk: it is being walked -/
  | dic (tk lk : Bool) (kvs : List (U × U))
  | ins (C : Addr) (fs : List (Str × U))
  /-- an exception that is held, not in flight: its class, its fields -/
  | exc (C : Addr) (fs : List (Str × U))
abbrev Mp := Addr → Option MO
def put (M : Mp) (a : Addr) (o : MO) : Mp := fun b => if b = a then some o else M b
def drp (M : Mp) (a : Addr) : Mp := fun b => if b = a then none else M b
theorem put_same {M : Mp} {a : Addr} {o : MO} : put M a o a = some o := by unfold put; rw [if_pos rfl]
theorem put_ne {M : Mp} {a b : Addr} {o : MO} (h : b ≠ a) : put M a o b = M b := by unfold put; rw [if_neg h]
theorem put_put {M : Mp} {a : Addr} {o u : MO} : put (put M a o) a u = put M a u := by
  funext b; unfold put; split <;> rfl
theorem drp_same {M : Mp} {a : Addr} : drp M a a = none := by unfold drp; rw [if_pos rfl]
theorem drp_ne {M : Mp} {a b : Addr} (h : b ≠ a) : drp M a b = M b := by unfold drp; rw [if_neg h]
theorem drp_put {M : Mp} {a : Addr} {o : MO} (h : M a = none) : drp (put M a o) a = M := by
  funext b
  by_cases e : b = a
  · rw [e, drp_same, h]
  · rw [drp_ne e, put_ne e]
theorem mne {M : Mp} {a b : Addr} {o : MO} (h : M a = some o) (h' : M b = none) : a ≠ b := by
  intro e; subst e; rw [h] at h'; cases h'

def keyU : Key → U
  | .inl i => .int i
  | .inr x => .str x
def keysU (ks : List Key) : U := .kt (ks.map keyU)
/-- pairs -/
def RepP (K : Frag) (H : Hp) {κ : Type} (ku : κ → U) (kvs : List (U × U)) (l : List (κ × V)) : Prop :=
  kvs.map (·.1) = l.map (fun p => ku p.1) ∧ RepL K H (kvs.map (·.2)) (l.map (·.2))
def RdL (lk : Bool) (H : Hp) (a : Addr) (u : HO) : Prop := if lk then ∃ o, H a = some (.frz o u) else H a = some u
/-- an exception's object, known -/
def xcT (a : Addr) (oe : Obj) : HO := .frz oe (.ext fun h => h.get? a = some oe)
def RX (K : Frag) (H : Hp) (a C : Addr) (fs : List (Str × U)) : Prop := ∃ (oe : Obj), H a = some (xcT a oe) ∧ oe.cls = .ref C ∧ (∃ vs, oe.data = .fields vs) ∧
  ((fs = [] ∧ oe.dict = none) ∨ ∃ dd od l, oe.dict = some dd ∧ H dd = some (.frz od (.xd l)) ∧ fs.map (·.1) = l.map (·.1) ∧ RepL K H (fs.map (·.2)) (l.map (·.2)))
theorem RX.keep {K : Frag} {H H' : Hp} {a C : Addr} {fs : List (Str × U)} (k : TK H H') (h : RX K H a C fs) : RX K H' a C fs := by
  obtain ⟨oe, h1, h2, h3, h4⟩ := h
  refine ⟨oe, k.frz _ _ _ h1, h2, h3, ?_⟩
  rcases h4 with h4 | ⟨dd, od, l, e1, e2, e3, r⟩
  · exact .inl h4
  · exact .inr ⟨dd, od, l, e1, k.frz _ _ _ e2, e3, r.keep k⟩
def RO (K : Frag) (H : Hp) (a : Addr) : MO → Prop
  | .exc C fs => RX K H a C fs
  | .lst xs => ∃ vs, H a = some (.lst vs) ∧ RepL K H xs vs
  | .dic false lk kvs => ∃ l, RdL lk H a (.dK l) ∧ RepP K H keyU kvs l
  | .dic true lk kvs => ∃ l, RdL lk H a (.dT l) ∧ RepP K H keysU kvs l
  | .ins C fs => ∃ dx l, H a = some (.ins C dx l) ∧ H dx = some (.own a) ∧ fs.map (·.1) = l.map (·.1) ∧ RepL K H (fs.map (·.2)) (l.map (·.2))
def RM (K : Frag) (H : Hp) (M : Mp) : Prop := ∀ a o, M a = some o → RO K H a o
theorem RO.there {K : Frag} {H : Hp} {a : Addr} {o : MO} (h : RO K H a o) : H a ≠ none := by
  intro e
  cases o with
  | lst xs => obtain ⟨vs, h, _⟩ := h; rw [e] at h; cases h
  | dic tk lk kvs =>
    cases tk
    all_goals
      obtain ⟨l, h, _⟩ := h
      unfold RdL at h
      cases lk
      · rw [if_neg Bool.false_ne_true, e] at h; cases h
      · rw [if_pos rfl] at h; obtain ⟨o, h⟩ := h; rw [e] at h; cases h
  | ins C fs => obtain ⟨dx, l, h, _⟩ := h; rw [e] at h; cases h
  | exc C fs => obtain ⟨oe, h, _⟩ := h; rw [e] at h; cases h
theorem RM.fresh {K : Frag} {H : Hp} {M : Mp} (h : RM K H M) {p : Addr} (e : H p = none) : M p = none := by
  cases q : M p with
  | none => rfl
  | some o => exact absurd e (h p o q).there
theorem RepP.keep {K : Frag} {H H' : Hp} {κ : Type} {ku : κ → U} {kvs : List (U × U)} {l : List (κ × V)} (k : TK H H') (h : RepP K H ku kvs l) : RepP K H' ku kvs l := ⟨h.1, h.2.keep k⟩
/-- what an object says stays, while its own address (and its own dict's) stays -/
theorem RO.keep {K : Frag} {H H' : Hp} {a : Addr} {o : MO} (k : TK H H') (h : RO K H a o) (e : ∀ u, H a = some u → H' a = some u) (e2 : ∀ b, H b = some (.own a) → H' b = some (.own a)) : RO K H' a o := by
  cases o with
  | lst xs => obtain ⟨vs, h, r⟩ := h; exact ⟨vs, e _ h, r.keep k⟩
  | dic tk lk kvs =>
    have q : ∀ u, RdL lk H a u → RdL lk H' a u := by
      intro u h
      unfold RdL at h ⊢
      cases lk
      · rw [if_neg Bool.false_ne_true] at h ⊢; exact e _ h
      · rw [if_pos rfl] at h ⊢; obtain ⟨o, h⟩ := h; exact ⟨o, e _ h⟩
    cases tk
    · obtain ⟨l, h, r⟩ := h
      exact ⟨l, q _ h, r.keep k⟩
    · obtain ⟨l, h, r⟩ := h
      exact ⟨l, q _ h, r.keep k⟩
  | ins C fs => obtain ⟨dx, l, h, hd, h2, r⟩ := h; exact ⟨dx, l, e _ h, e2 _ hd, h2, r.keep k⟩
  | exc C fs => exact RX.keep k h
/-- a step: what is kept -/
structure SK (H : Hp) (M : Mp) (H' : Hp) (M' : Mp) : Prop where
  tk : TK H H'
theorem SK.refl (H : Hp) (M : Mp) : SK H M H M := ⟨.refl H⟩
theorem SK.trans {H H1 H2 : Hp} {M M1 M2 : Mp} (a : SK H M H1 M1) (b : SK H1 M1 H2 M2) : SK H M H2 M2 := ⟨a.tk.trans b.tk⟩
end L3

set_option Elab.async false
set_option linter.all false
set_option maxRecDepth 100000
set_option maxHeartbeats 4000000
namespace L3
open PySem PySem.Spec L2
open PyProof.Rows hiding St
/-! ### slots -/
abbrev SL := List (Option U)
def getS : SL → Nat → Option U
  | [], _ => none
  | x :: _, 0 => x
  | _ :: r, n + 1 => getS r n
def setS : SL → Nat → Option U → SL
  | [], _, _ => []
  | _ :: r, 0, u => u :: r
  | x :: r, n + 1, u => x :: setS r n u
theorem getS_eq : ∀ (σ : SL) (i : Nat), getS σ i = (σ[i]?).join
  | [], i => by simp [getS]
  | x :: r, 0 => by simp [getS]
  | x :: r, n + 1 => by simp [getS, getS_eq r n]
theorem setS_eq : ∀ (σ : SL) (i : Nat) (u : Option U), setS σ i u = σ.set i u
  | [], i, u => by simp [setS]
  | x :: r, 0, u => by simp [setS]
  | x :: r, n + 1, u => by simp [setS, setS_eq r n]
structure RS (K : Frag) (H : Hp) (σ : St) (z : SL) : Prop where
  len : σ.length = z.length
  at_ : ∀ (i : Nat) (u : U), getS z i = some u → ∃ v, σ[i]? = some (some v) ∧ Rep K H u v
theorem RS.keep {K : Frag} {H H' : Hp} {σ : St} {z : SL} (k : TK H H') (h : RS K H σ z) : RS K H' σ z := ⟨h.len, fun i u e => by
  obtain ⟨v, e1, r⟩ := h.at_ i u e
  exact ⟨v, e1, r.keep k⟩⟩
theorem RS.set {K : Frag} {H : Hp} {σ : St} {z : SL} {i : Nat} {u : U} {v : V} (h : RS K H σ z) (r : Rep K H u v) : RS K H (σ.set i (some v)) (setS z i (some u)) := by
  refine ⟨by rw [setS_eq]; simp [h.len], fun j w e => ?_⟩
  rw [setS_eq, getS_eq] at e
  by_cases hj : j = i
  · subst hj
    by_cases hl : j < z.length
    · rw [List.getElem?_set_self hl] at e
      have e' : u = w := by simpa using e
      subst e'
      exact ⟨v, by rw [List.getElem?_set_self (by rw [h.len]; exact hl)], r⟩
    · rw [List.getElem?_eq_none (by rw [List.length_set]; omega)] at e
      simp at e
  · rw [List.getElem?_set_ne (Ne.symm hj), ← getS_eq] at e
    obtain ⟨x, e1, r1⟩ := h.at_ j w e
    exact ⟨x, by rw [List.getElem?_set_ne (Ne.symm hj)]; exact e1, r1⟩
theorem RS.clr {K : Frag} {H : Hp} {σ : St} {z : SL} {i : Nat} {o : Option V} (h : RS K H σ z) : RS K H (σ.set i o) (setS z i none) := by
  refine ⟨by rw [setS_eq]; simp [h.len], fun j w e => ?_⟩
  rw [setS_eq, getS_eq] at e
  by_cases hj : j = i
  · subst hj
    by_cases hl : j < z.length
    · rw [List.getElem?_set_self hl] at e
      simp at e
    · rw [List.getElem?_eq_none (by rw [List.length_set]; omega)] at e
      simp at e
  · rw [List.getElem?_set_ne (Ne.symm hj), ← getS_eq] at e
    obtain ⟨x, e1, r1⟩ := h.at_ j w e
    exact ⟨x, by rw [List.getElem?_set_ne (Ne.symm hj)]; exact e1, r1⟩
/-- the slots at a def's entry: n in all -/
def startU (n : Nat) (us : List U) : SL := us.map some ++ List.replicate (n - us.length) none
theorem RS.start {K : Frag} {H : Hp} {N : List Str} {vs : List V} {us : List U} (h : RepL K H us vs) : RS K H (L2.start N vs) (startU N.length us) := by
  have hl := h.len
  refine ⟨by simp [L2.start, startU, hl], fun i u e => ?_⟩
  rw [getS_eq] at e
  unfold startU at e
  by_cases hi : i < us.length
  · rw [List.getElem?_append_left (by simpa using hi), List.getElem?_map] at e
    cases q : us[i]? with
    | none => rw [q] at e; simp at e
    | some w =>
      rw [q] at e
      have e' : w = u := by simpa using e
      subst e'
      obtain ⟨v, e1, r⟩ := h.get q
      refine ⟨v, ?_, r⟩
      unfold L2.start
      rw [List.getElem?_append_left (by simpa [← hl] using hi), List.getElem?_map, e1]
      rfl
  · rw [List.getElem?_append_right (by simpa using hi), List.getElem?_replicate] at e
    split at e <;> simp at e

/-! ### readings over trees -/
abbrev QK := U → Mp → Prop
abbrev TE' := SL → Mp → QK → Prop
abbrev TT' := SL → Mp → (Bool → Mp → Prop) → Prop
abbrev TA' := SL → Mp → (List U → Mp → Prop) → Prop
structure Ends' where
  nx : SL → Mp → Prop
  rt : QK
  bk : SL → Mp → Prop := fun _ _ => False
  ct : SL → Mp → Prop := fun _ _ => False
abbrev TS' := Ends' → SL → Mp → Prop
/-- an exception: its class, its fields -/
abbrev XK' := Addr → List (Str × U) → Mp → Prop
abbrev WX' := Addr → List (Str × U) → SL → Mp → Prop
/-- what is wanted over trees gives what is wanted over the heap -/
def Post (K : Frag) (H : Hp) (M : Mp) (q : QK) (Q : VK) : Prop := ∀ u M', q u M' → ∀ v H', Rep K H' u v → RM K H' M' → SK H M H' M' → Q v H'
def PostB (K : Frag) (H : Hp) (M : Mp) (q : Bool → Mp → Prop) (Q : Bool → Hp → Prop) : Prop := ∀ b M', q b M' → ∀ H', RM K H' M' → SK H M H' M' → Q b H'
def PostA (K : Frag) (H : Hp) (M : Mp) (q : List U → Mp → Prop) (Q : List V → Hp → Prop) : Prop := ∀ us M', q us M' → ∀ vs H', RepL K H' us vs → RM K H' M' → SK H M H' M' → Q vs H'
def PostS (K : Frag) (H : Hp) (M : Mp) (q : SL → Mp → Prop) (Q : St → Hp → Prop) : Prop := ∀ z M', q z M' → ∀ σ H', RS K H' σ z → RM K H' M' → SK H M H' M' → Q σ H'
def lowE (K : Frag) (t : TE') : TE := fun σ H Q => ∃ z M q, RS K H σ z ∧ RM K H M ∧ t z M q ∧ Post K H M q Q
def lowT (K : Frag) (t : TT') : TT := fun σ H Q => ∃ z M q, RS K H σ z ∧ RM K H M ∧ t z M q ∧ PostB K H M q Q
def lowA (K : Frag) (t : TA') : TA := fun σ H Q => ∃ z M q, RS K H σ z ∧ RM K H M ∧ t z M q ∧ PostA K H M q Q
structure PostD (K : Frag) (H : Hp) (M : Mp) (d : Ends') (D : Ends) : Prop where
  nx : PostS K H M d.nx D.nx
  rt : Post K H M d.rt D.rt
  bk : PostS K H M d.bk D.bk
  ct : PostS K H M d.ct D.ct
def lowS (K : Frag) (t : TS') : TS := fun D σ H => ∃ z M d, RS K H σ z ∧ RM K H M ∧ t d z M ∧ PostD K H M d D
section
variable {K : Frag} {H H1 : Hp} {M M1 : Mp} {q : QK} {Q : VK}
theorem Post.step (p : Post K H M q Q) (s : SK H M H1 M1) : Post K H1 M1 q Q := fun u M' h v H' r m k => p u M' h v H' r m (s.trans k)
theorem PostB.step {q : Bool → Mp → Prop} {Q : Bool → Hp → Prop} (p : PostB K H M q Q) (s : SK H M H1 M1) : PostB K H1 M1 q Q := fun u M' h H' m k => p u M' h H' m (s.trans k)
theorem PostA.step {q : List U → Mp → Prop} {Q : List V → Hp → Prop} (p : PostA K H M q Q) (s : SK H M H1 M1) : PostA K H1 M1 q Q := fun u M' h v H' r m k => p u M' h v H' r m (s.trans k)
theorem PostS.step {q : SL → Mp → Prop} {Q : St → Hp → Prop} (p : PostS K H M q Q) (s : SK H M H1 M1) : PostS K H1 M1 q Q := fun u M' h v H' r m k => p u M' h v H' r m (s.trans k)
theorem PostD.step {d : Ends'} {D : Ends} (p : PostD K H M d D) (s : SK H M H1 M1) : PostD K H1 M1 d D := ⟨p.nx.step s, p.rt.step s, p.bk.step s, p.ct.step s⟩
end
/-! ### the judgements over trees -/
def QE (X : Cx) (e : Expr) (t : TE') : Prop := PE X e (lowE X.K t)
def QT (X : Cx) (e : Expr) (t : TT') : Prop := PT X e (lowT X.K t)
def QW (X : Cx) (e : Expr) (t : TT') : Prop := PW X e (lowT X.K t)
def QA (X : Cx) (es : List Expr) (t : TA') : Prop := PA X es (lowA X.K t)
def QS (X : Cx) (st : Stmt) (t : TS') : Prop := PS X st (lowS X.K t)
def QSs (X : Cx) (st : List Stmt) (t : TS') : Prop := PSs X st (lowS X.K t)
section
variable {X : Cx}
theorem imE {e : Expr} {t t' : TE} (h : PE X e t) (k : ∀ σ H Q, t' σ H Q → t σ H Q) : PE X e t' := ⟨fun pins s σ H Q I w => h.run pins s σ H Q I (k σ H Q w)⟩
theorem imT {e : Expr} {t t' : TT} (h : PT X e t) (k : ∀ σ H Q, t' σ H Q → t σ H Q) : PT X e t' := ⟨fun pins s σ H Q I w => h.run pins s σ H Q I (k σ H Q w)⟩
theorem imW {e : Expr} {t t' : TT} (h : PW X e t) (k : ∀ σ H Q, t' σ H Q → t σ H Q) : PW X e t' := ⟨fun wh pins s σ H Q I w => h.run wh pins s σ H Q I (k σ H Q w)⟩
theorem imA {es : List Expr} {t t' : TA} (h : PA X es t) (k : ∀ σ H Q, t' σ H Q → t σ H Q) : PA X es t' := ⟨fun p pins s σ H Q I w => h.run p pins s σ H Q I (k σ H Q w)⟩
theorem imS {st : Stmt} {t t' : TS} (h : PS X st t) (k : ∀ D σ H, t' D σ H → t D σ H) : PS X st t' := ⟨fun pins s σ H D I w => h.run pins s σ H D I (k D σ H w)⟩
theorem imSs {st : List Stmt} {t t' : TS} (h : PSs X st t) (k : ∀ D σ H, t' D σ H → t D σ H) : PSs X st t' := ⟨fun pins s σ H D I w => h.run pins s σ H D I (k D σ H w)⟩
end
/-! ### names, constants -/
def eV (i : Nat) : TE' := fun z M q => match getS z i with
  | some u => q u M
  | none => False
def eC (u : U) : TE' := fun _ M q => q u M
section
variable {X : Cx} {pos : Pos}
theorem qe_var {i : Nat} {x : Str} (h : PE X (.Name x pos) (tVar i)) : QE X (.Name x pos) (eV i) := imE h fun σ H Q ⟨z, M, q, hs, hm, hq, P⟩ => by
  unfold eV at hq
  cases e : getS z i with
  | none => rw [e] at hq; exact hq.elim
  | some u =>
    rw [e] at hq
    obtain ⟨v, e1, r⟩ := hs.at_ i u e
    exact ⟨v, e1, P u M hq v H r hm (.refl H M)⟩
theorem qv (i : Nat) {x : Str} (hN : X.N[i]? = some x := by rfl) (hv : Vis X.env.scope x := by first | exact Or.inl rfl | exact Or.inr (Or.inl rfl) | exact Or.inr (Or.inr rfl)) (hd : (x == ("__debug__" : Str)) = false := by decide)
    (hcd : (x == ("__classdict__" : Str)) = false := by decide) : QE X (.Name x pos) (eV i) := qe_var (pv i hN hv hd hcd)
theorem qe_cst {e : Expr} {u : U} {v : V} (h : PE X e (tC v)) (r : ∀ H, Rep X.K H u v) : QE X e (eC u) := imE h fun σ H Q ⟨z, M, q, hs, hm, hq, P⟩ => P u M hq v H (r H) hm (.refl H M)
theorem qe_int {i j} : QE X (.Constant (.int i) j pos) (eC (.int i)) := qe_cst pe_int fun H => by simp only [Rep]
theorem qe_bl {b j} : QE X (.Constant (.bool b) j pos) (eC (.bl b)) := qe_cst pe_bl fun H => by simp only [Rep]
theorem qe_non {j} : QE X (.Constant .none j pos) (eC .non) := qe_cst pe_non fun H => by simp only [Rep]
theorem qe_str {x j} : QE X (.Constant (.str x) j pos) (eC (.str x)) := qe_cst pe_str fun H => by simp only [Rep]
end
/-! ### two places -/
abbrev R2' := U → U → Mp → QK → Prop
def lowR (K : Frag) (r : R2') : R2 := fun x y H Q => ∃ u w M q, Rep K H u x ∧ Rep K H w y ∧ RM K H M ∧ r u w M q ∧ Post K H M q Q
def eBin (r : R2') (a b : TE') : TE' := fun z M q => a z M fun x M1 => b z M1 fun y M2 => r x y M2 q
theorem low_bin {K : Frag} {r : R2'} {a b : TE'} {σ : St} {H : Hp} {Q : VK} (h : lowE K (eBin r a b) σ H Q) : tOp (lowR K r) (lowE K a) (lowE K b) σ H Q := by
  obtain ⟨z, M, q, hs, hm, hq, P⟩ := h
  refine ⟨z, M, _, hs, hm, hq, fun x M1 h1 vx H1 rx m1 k1 => ?_⟩
  refine ⟨z, M1, _, hs.keep k1.tk, m1, h1, fun y M2 h2 vy H2 ry m2 k2 => ?_⟩
  exact ⟨x, y, M2, q, rx.keep k2.tk, ry, m2, h2, P.step (k1.trans k2)⟩
section
variable {X : Cx} {pos : Pos} {a b : Expr} {ta tb : TE'} {r : R2'}
theorem qe_op {op : Operator} (ho : OpR X (binaryOp op) (lowR X.K r)) (ha : QE X a ta) (hb : QE X b tb) : QE X (.BinOp a op b pos) (eBin r ta tb) := imE (pe_op ho ha hb) fun _ _ _ h => low_bin h
theorem qe_cmp {op : CmpOp} (ho : OpR X (compareOp op) (lowR X.K r)) (ha : QE X a ta) (hb : QE X b tb) (hm : behindInMarks op b = false) : QE X (.Compare a [op] [b] pos) (eBin r ta tb) := imE (pe_cmpR ho ha hb hm) fun _ _ _ h => low_bin h
/-- a value's truth, where it's a bool -/
def asB (q : Bool → Mp → Prop) : QK := fun u M => match u with
  | .bl k => q k M
  | _ => False
def tB' (t : TE') : TT' := fun z M q => t z M (asB q)
theorem low_test {K : Frag} {t : TE'} {σ : St} {H : Hp} {Q : Bool → Hp → Prop} (h : lowT K (tB' t) σ H Q) : tTest (lowE K t) σ H Q := by
  obtain ⟨z, M, q, hs, hm, hq, P⟩ := h
  refine ⟨z, M, _, hs, hm, hq, fun u M' h v H' r m k => ?_⟩
  cases u with
  | bl c =>
    simp only [Rep] at r
    exact ⟨c, r, P c M' h H' m k⟩
  | _ => exact (show False from h).elim
theorem tTest_mono {t t' : TE} {σ : St} {H : Hp} {Q : Bool → Hp → Prop} (k : ∀ Q, t σ H Q → t' σ H Q) (h : tTest t σ H Q) : tTest t' σ H Q := k _ h
theorem qt_cmp {op : CmpOp} (ho : OpR X (compareOp op) (lowR X.K r)) (ha : QE X a ta) (hb : QE X b tb) (hm : behindInMarks op b = false) : QT X (.Compare a [op] [b] pos) (tB' (eBin r ta tb)) :=
  imT (pt_cmpR ho ha hb hm) fun σ H Q h => tTest_mono (fun _ h => low_bin h) (low_test h)
end
end L3

set_option Elab.async false
set_option linter.all false
set_option maxRecDepth 100000
set_option maxHeartbeats 4000000
namespace L3
open PySem PySem.Spec L2
open PyProof.Rows hiding St
/-! ### what a tree says of its value -/
section
variable {K : Frag} {H : Hp} {M : Mp} {u w : U} {v : V} {us xs : List U}
theorem rint {i : Int} (h : Rep K H (.int i) v) : v = .int i := by simpa only [Rep] using h
theorem rbl {b : Bool} (h : Rep K H (.bl b) v) : v = .bl b := by simpa only [Rep] using h
theorem rstr {x : Str} (h : Rep K H (.str x) v) : v = .str x := by simpa only [Rep] using h
theorem rnon (h : Rep K H .non v) : v = .non := by simpa only [Rep] using h
theorem rref {a : Addr} (h : Rep K H (.ref a) v) : v = .ref a := by simpa only [Rep] using h
theorem rty {n : String} (h : Rep K H (.ty n) v) : v = .ty n := by simpa only [Rep] using h
theorem Rep.i {i : Int} : Rep K H (.int i) (.int i) := by simp only [Rep]
theorem Rep.b {b : Bool} : Rep K H (.bl b) (.bl b) := by simp only [Rep]
theorem Rep.s {x : Str} : Rep K H (.str x) (.str x) := by simp only [Rep]
theorem Rep.n : Rep K H .non .non := by simp only [Rep]
theorem Rep.r {a : Addr} : Rep K H (.ref a) (.ref a) := by simp only [Rep]
/-- a list's items, a tuple's -/
def seqL (M : Mp) : U → Option (List U)
  | .lst xs => some xs
  | .ref a => match M a with
    | some (.lst xs) => some xs
    | _ => none
  | _ => none
def seqT : U → Option (List U)
  | .tup xs => some xs
  | .kt xs => some xs
  | _ => none
theorem seqL_of (m : RM K H M) (h : seqL M u = some xs) (r : Rep K H u v) : ∃ a vs, v = .ref a ∧ SqL K H a vs ∧ RepL K H xs vs := by
  cases u with
  | lst ys =>
    cases h
    simp only [Rep] at r
    obtain ⟨a, vs, e, f, r⟩ := r
    exact ⟨a, vs, e, f.seq, r⟩
  | ref a =>
    have h' : (match M a with | some (.lst xs) => some xs | _ => none) = some xs := h
    cases e : M a with
    | none => rw [e] at h'; cases h'
    | some o =>
      rw [e] at h'
      cases o with
      | lst ys =>
        cases h'
        obtain ⟨vs, e1, r1⟩ := m a _ e
        exact ⟨a, vs, rref r, .of e1, r1⟩
      | _ => cases h'
  | _ => cases h
theorem seqT_of (h : seqT u = some xs) (r : Rep K H u v) : ∃ a vs, v = .ref a ∧ SqT K H a vs ∧ RepL K H xs vs := by
  cases u with
  | tup ys =>
    cases h
    simp only [Rep] at r
    exact r
  | kt ys =>
    cases h
    simp only [Rep] at r
    obtain ⟨a, vs, e, f, r⟩ := r
    exact ⟨a, vs, e, .of f, r⟩
  | _ => cases h
end
/-! ### new things -/
/-- a new list: one that stands still, or one that may change -/
def newL (xs : List U) (M : Mp) (q : QK) : Prop := q (.lst xs) M ∨ ∀ p, M p = none → q (.ref p) (put M p (.lst xs))
def newT (xs : List U) (M : Mp) (q : QK) : Prop := q (.tup xs) M ∨ q (.kt xs) M
/-- lists may be locked for ever where an expression, a def ends -/
inductive fz (Q : VK) (v : V) : Hp → Prop where
  | here {H : Hp} : Q v H → fz Q v H
  | lock {H : Hp} {a : Addr} {xs : List V} : H a = some (.lst xs) → (∀ o, fz Q v (upd H a (.frz o (.lst xs)))) → fz Q v H
theorem fz.run {X : Cx} {pins : List (Addr × Obj)} {σ : L2.St} {Q : VK} {v : V} {H : Hp} {s : Shared} (h : fz Q v H) (I : Inv X pins σ H s) : ∃ H', Inv X pins σ H' s ∧ Q v H' := by
  induction h with
  | here q => exact ⟨_, I, q⟩
  | lock e _ ih =>
    obtain ⟨od, I'⟩ := I.lock e trivial
    exact ih od I'
theorem EP.fz {X : Cx} {pins : List (Addr × Obj)} {σ : L2.St} {Q : VK} {u : Value} {s : Shared} (h : EP X pins σ (fz Q) u s) : EP X pins σ Q u s := by
  obtain ⟨v, H, I, r, q⟩ := h
  obtain ⟨H', I', q'⟩ := q.run I
  exact ⟨v, H', I', r, q'⟩
theorem OpR.fz {X : Cx} {f : Value → Value → Sem Value} {r : R2} (h : OpR X f r) : OpR X f (fun x y H Q => r x y H (fz Q)) :=
  fun pins s σ H x y v u Q I rx ry q => thn (h pins s σ H x y v u (L3.fz Q) I rx ry q) fun _ _ e => EP.fz e
theorem CallR.fz {X : Cx} {f : Value} {r : List V → Hp → VK → Prop} (h : CallR X f r) : CallR X f (fun xs H Q => r xs H (fz Q)) :=
  fun pins s σ H xs us Q I rx q => thn (h pins s σ H xs us (L3.fz Q) I rx q) fun _ _ e => EP.fz e
theorem PE.fz {X : Cx} {e : Expr} {t : TE} (h : PE X e t) : PE X e (fun σ H Q => t σ H (fz Q)) :=
  ⟨fun pins s σ H Q I q => thn (h.run pins s σ H (L3.fz Q) I q) fun _ _ e => EP.fz e⟩
section
variable {K : Frag} {H : Hp} {M : Mp} {q : QK} {Q : VK} {xs : List U} {vs : List V}
theorem RM.new {o : HO} {mo : MO} {p : Addr} (m : RM K H M) (hp : H p = none) (h : RO K (upd H p o) p mo) : RM K (upd H p o) (put M p mo) := fun a x e => by
  by_cases z : a = p
  · rw [z, put_same] at e; cases e
    rw [z]; exact h
  · rw [put_ne z] at e
    refine (m a x e).keep (.new hp) (fun u h => by rw [upd_ne z]; exact h) fun b h => by rw [upd_ne (ne_of_none h hp)]; exact h
theorem RM.hid {o : HO} {p : Addr} (m : RM K H M) (hp : H p = none) : RM K (upd H p o) M := fun a x e => by
  refine (m a x e).keep (.new hp) (fun u h => by rw [upd_ne (ne_of_none h hp)]; exact h) fun b h => by rw [upd_ne (ne_of_none h hp)]; exact h
theorem upd_some {H : Hp} {p a : Addr} {o : HO} (h : H a ≠ none) : upd H p o a ≠ none := by
  by_cases z : a = p
  · rw [z, upd_same]; exact fun e => nomatch e
  · rw [upd_ne z]; exact h
theorem SK.new {o : HO} {mo : MO} {p : Addr} (hp : H p = none) : SK H M (upd H p o) (put M p mo) := ⟨.new hp⟩
theorem SK.hide {o : HO} {p : Addr} (hp : H p = none) : SK H M (upd H p o) M := ⟨.new hp⟩
theorem newL_ok (m : RM K H M) (r : RepL K H xs vs) (h : newL xs M q) (P : Post K H M q Q) {p : Addr} (hp : H p = none) : fz Q (.ref p) (upd H p (.lst vs)) := by
  rcases h with h | h
  · refine .lock (a := p) (xs := vs) upd_same fun o => .here ?_
    rw [upd_upd]
    refine P _ _ h _ _ ?_ (m.hid hp) (.hide hp)
    simp only [Rep]
    exact ⟨p, vs, rfl, .inl ⟨o, upd_same⟩, r.keep (.new hp)⟩
  · refine .here (P _ _ (h p (m.fresh hp)) _ _ .r (m.new hp ⟨vs, upd_same, r.keep (.new hp)⟩) (.new hp))
theorem newT_ok (m : RM K H M) (r : RepL K H xs vs) (h : newT xs M q) (P : Post K H M q Q) {p : Addr} (hp : H p = none) : Q (.ref p) (upd H p (.tup vs)) := by
  rcases h with h | h
  · refine P _ _ h _ _ ?_ (m.hid hp) (.hide hp)
    simp only [Rep]
    exact ⟨p, vs, rfl, .of upd_same, r.keep (.new hp)⟩
  · refine P _ _ h _ _ ?_ (m.hid hp) (.hide hp)
    simp only [Rep]
    exact ⟨p, vs, rfl, upd_same, r.keep (.new hp)⟩
end
/-! ### operators -/
section
variable {X : Cx}
theorem opU {f : Value → Value → Sem Value} {r : R2} {r' : R2'} (h : OpR X f r) (k : ∀ u w x y H M q Q, Rep X.K H u x → Rep X.K H w y → RM X.K H M → r' u w M q → Post X.K H M q Q → r x y H Q) : OpR X f (lowR X.K r') :=
  fun pins s σ H x y v u Q I rx ry ⟨a, b, M, q, ra, rb, m, hq, P⟩ => h pins s σ H x y v u Q I rx ry (k a b x y H M q Q ra rb m hq P)
/-- + of two lists, whatever they are -/
theorem op_catS : OpR X (binaryOp .Add) (fun x y H Q => ∃ l b xs zs, x = .ref l ∧ y = .ref b ∧ SqL X.K H l xs ∧ SqL X.K H b zs ∧ xs.length + zs.length ≤ sizeLine ∧ ∀ p, H p = none → Q (.ref p) (upd H p (.lst (xs ++ zs)))) := by
  intro pins s σ H x y v u Q I rx ry h
  obtain ⟨l, b, xs, zs, rfl, rfl, hH, hB, hz, q⟩ := h
  cases rx
  cases ry
  obtain ⟨its, r, ⟨⟨cls, dd, data, sl⟩, n, ho, hc, hd, hdat⟩, _⟩ := I.list hH
  obtain ⟨its2, r2, ⟨⟨cls2, dd2, data2, sl2⟩, n2, ho2, hc2, hd2, hdat2⟩, _⟩ := I.list hB
  simp only at hc hd hdat hc2 hd2 hdat2
  subst hc hd hdat hc2 hd2 hdat2
  have hl := r.length
  have hl2 := r2.length
  refine concat_meets ⟨_, ho, rfl⟩ ⟨_, ho2, rfl⟩ noFill_list_add seq_list_add PySem.F.slot_list_add PySem.F.entry_list_add (PySem.F.args_list_add_2 _ _) (PyProof.Rows.list_addW l b its.toArray its2.toArray n n2 none none sl sl2 (by rw [List.size_toArray, List.size_toArray]; omega)) ⟨ho, ho2, ?_⟩
  have ea : its.toArray ++ its2.toArray = (its ++ its2).toArray := by simp
  rw [ea]
  exact ⟨.ref _, _, I.lnew (t' := s.toks) (r.append r2) (by rw [List.length_append]; omega), rfl, q _ I.fresh⟩
end
end L3

set_option Elab.async false
set_option linter.all false
set_option maxRecDepth 100000
set_option maxHeartbeats 4000000
namespace L3
open PySem PySem.Spec L2
open PyProof.Rows hiding St
/-! ### + - * // % ** << >> & ^ -/
def catT (xs ys : List U) (M : Mp) (q : QK) : Prop := q (.tup (xs ++ ys)) M ∨ (xs ≠ [] ∧ ys ≠ [] ∧ q (.kt (xs ++ ys)) M)
def rAdd : R2' := fun x y M q => match x with
  | .int i => match y with
    | .int j => q (.int (i + j)) M
    | _ => False
  | .str a => match y with
    | .str b => a.length + b.length ≤ sizeLine ∧ q (.str (a ++ b)) M
    | _ => False
  | x => match seqT x with
    | some xs => ∃ ys, seqT y = some ys ∧ xs.length + ys.length ≤ sizeLine ∧ catT xs ys M q
    | none => ∃ xs ys, seqL M x = some xs ∧ seqL M y = some ys ∧ xs.length + ys.length ≤ sizeLine ∧ newL (xs ++ ys) M q
def rInt (C : Int → Int → Prop) (g : Int → Int → Int) : R2' := fun x y M q => match x with
  | .int i => match y with
    | .int j => C i j ∧ q (.int (g i j)) M
    | _ => False
  | _ => False
def rInt0 (g : Int → Int → U) : R2' := fun x y M q => match x with
  | .int i => match y with
    | .int j => q (g i j) M
    | _ => False
  | _ => False
def rMul : R2' := fun x y M q => match x with
  | .int i => match y with
    | .int j => IntMulOk i j ∧ q (.int (i * j)) M
    | _ => False
  | x => match y with
    | .int k => ∃ xs, seqL M x = some xs ∧ -(2 ^ 63) ≤ k ∧ k < 2 ^ 63 ∧ xs.length * k.toNat ≤ sizeLine ∧ newL (List.replicate k.toNat xs).flatten M q
    | _ => False
abbrev rSub : R2' := rInt0 fun i j => .int (i - j)
abbrev rDiv : R2' := rInt CDivW fun i j => i / j
abbrev rMod : R2' := rInt (fun _ j => 0 < j) fun i j => i % j
abbrev rPow : R2' := rInt CPow fun i j => i ^ j.toNat
abbrev rShl : R2' := rInt CPow fun i j => i * 2 ^ j.toNat
abbrev rShr : R2' := rInt (fun _ j => 0 ≤ j) fun i j => i / 2 ^ j.toNat
abbrev rAnd : R2' := rInt0 fun i j => .int (Builtin.bitAnd i j)
abbrev rXor : R2' := rInt0 fun i j => .int (Builtin.bitXor i j)
section
variable {X : Cx}
theorem Post.val {K : Frag} {H : Hp} {M : Mp} {q : QK} {Q : VK} {u : U} {v : V} (P : Post K H M q Q) (hq : q u M) (m : RM K H M) (r : Rep K H u v) : Q v H := P u M hq v H r m (.refl H M)
theorem opI0 {f : Value → Value → Sem Value} {g : Int → Int → V} {g' : Int → Int → U} (h : OpR X f (rI0 g)) (hg : ∀ H i j, Rep X.K H (g' i j) (g i j)) : OpR X f (lowR X.K (rInt0 g')) :=
  opU h fun u w x y H M q Q ru rw' m hq P => by
    cases u with
    | int i => cases w with
      | int j => exact ⟨i, j, rint ru, rint rw', P.val hq m (hg H i j)⟩
      | _ => exact hq.elim
    | _ => exact hq.elim
theorem opI {f : Value → Value → Sem Value} {C : Int → Int → Prop} {g : Int → Int → Int} (h : OpR X f (rI C fun i j => .int (g i j))) : OpR X f (lowR X.K (rInt C g)) :=
  opU h fun u w x y H M q Q ru rw' m hq P => by
    cases u with
    | int i => cases w with
      | int j => exact ⟨i, j, rint ru, rint rw', hq.1, P.val hq.2 m .i⟩
      | _ => exact hq.elim
    | _ => exact hq.elim
theorem o_sub : OpR X (binaryOp .Sub) (lowR X.K rSub) := opI0 op_sub fun _ _ _ => .i
theorem o_div : OpR X (binaryOp .FloorDiv) (lowR X.K rDiv) := opI op_fdivW
theorem o_mod : OpR X (binaryOp .Mod) (lowR X.K rMod) := opI op_mod
theorem o_pow : OpR X (binaryOp .Pow) (lowR X.K rPow) := opI op_pow
theorem o_shl : OpR X (binaryOp .LShift) (lowR X.K rShl) := opI op_shl
theorem o_shr : OpR X (binaryOp .RShift) (lowR X.K rShr) := opI op_shr
theorem o_and : OpR X (binaryOp .BitAnd) (lowR X.K rAnd) := opI0 op_and fun _ _ _ => .i
theorem o_xor : OpR X (binaryOp .BitXor) (lowR X.K rXor) := opI0 op_xor fun _ _ _ => .i
theorem low_catT {K : Frag} {H : Hp} {M : Mp} {q : QK} {Q : VK} {x y : V} {u w : U} {xs ys : List U} (hu : seqT u = some xs) (hw : seqT w = some ys) (ru : Rep K H u x) (rw' : Rep K H w y) (m : RM K H M) (hz : xs.length + ys.length ≤ sizeLine) (h : catT xs ys M q) (P : Post K H M q Q) :
    rCatA K x y H Q := by
  obtain ⟨a, vs, rfl, s1, r1⟩ := seqT_of hu ru
  obtain ⟨b, ws, rfl, s2, r2⟩ := seqT_of hw rw'
  have l1 := r1.len
  have l2 := r2.len
  refine ⟨a, b, vs, ws, rfl, rfl, s1, s2, by omega, fun e => ?_, fun n e => ?_, fun n1 n2 p hp => ?_⟩
  · have ex : xs = [] := List.length_eq_zero_iff.mp (by rw [l1, e]; rfl)
    subst ex
    rcases h with h | ⟨h, _⟩
    · exact P.val h m (by simp only [Rep]; exact ⟨b, ws, rfl, s2, by simpa using r2⟩)
    · exact absurd rfl h
  · have ey : ys = [] := List.length_eq_zero_iff.mp (by rw [l2, e]; rfl)
    subst ey
    rcases h with h | ⟨_, h, _⟩
    · exact P.val h m (by simp only [Rep]; exact ⟨a, vs, rfl, s1, by simpa using r1⟩)
    · exact absurd rfl h
  · rcases h with h | ⟨_, _, h⟩
    · exact newT_ok m (r1.app r2) (.inl h) P hp
    · exact newT_ok m (r1.app r2) (.inr h) P hp
theorem o_add : OpR X (binaryOp .Add) (lowR X.K rAdd) :=
  opU (op_add.or (op_add_str.or (op_catA.or (OpR.fz op_catS)))) fun u w x y H M q Q ru rw' m hq P => by
    have gen : (∃ xs ys, seqL M u = some xs ∧ seqL M w = some ys ∧ xs.length + ys.length ≤ sizeLine ∧ newL (xs ++ ys) M q) →
        (∃ l b xs zs, x = .ref l ∧ y = .ref b ∧ SqL X.K H l xs ∧ SqL X.K H b zs ∧ xs.length + zs.length ≤ sizeLine ∧ ∀ p, H p = none → fz Q (.ref p) (upd H p (.lst (xs ++ zs)))) := fun ⟨xs, ys, e1, e2, hz, h⟩ => by
      obtain ⟨a, vs, rfl, s1, r1⟩ := seqL_of m e1 ru
      obtain ⟨b, ws, rfl, s2, r2⟩ := seqL_of m e2 rw'
      have l1 := r1.len
      have l2 := r2.len
      exact ⟨a, b, vs, ws, rfl, rfl, s1, s2, by omega, fun p hp => newL_ok m (r1.app r2) h P hp⟩
    cases u with
    | int i => cases w with
      | int j => exact .inl ⟨i, j, rint ru, rint rw', P.val hq m .i⟩
      | _ => exact hq.elim
    | str a => cases w with
      | str b => exact .inr (.inl ⟨a, b, rstr ru, rstr rw', hq.1, P.val hq.2 m .s⟩)
      | _ => exact hq.elim
    | tup xs =>
      obtain ⟨ys, e, hz, h⟩ := hq
      exact .inr (.inr (.inl (low_catT rfl e ru rw' m hz h P)))
    | kt xs =>
      obtain ⟨ys, e, hz, h⟩ := hq
      exact .inr (.inr (.inl (low_catT rfl e ru rw' m hz h P)))
    | _ => exact .inr (.inr (.inr (gen hq)))
theorem op_mulOk : OpR X (binaryOp .Mult) (rI IntMulOk fun i j => .int (i * j)) := L2.opI fun _ _ _ _ _ _ _ hc q => mul_int q hc
end
end L3

set_option Elab.async false
set_option linter.all false
set_option maxRecDepth 100000
set_option maxHeartbeats 4000000
namespace L3
open PySem PySem.Spec L2
open PyProof.Rows hiding St
/-! ### defs, where no repr is under way around (so repr may be asked within) -/
structure FnG (P : Program) (w : World) (K : Frag) (mg : Str → Option Value) (base : Heap) (k : Nat) (f : Addr) (fd : FuncData) (ps : List Str) (sp : Sp) : Prop where
  len : ∀ vs H Q E, sp vs H Q E → vs.length = ps.length
  run : ∀ (A : Around) (outer : List Env) (s : Shared) (H : Hp) (args : Args) (us : List Value) (vs : List V) (Q : VK) (E : XK), Room k A → A.guards = some [] → Env0 P w K mg base A outer s H →
    BindsTo s fd args (ps.zip us) → Vals vs us → sp vs H Q E → codeAny (model P w) A (.call (.ref f) args) (CR (L2.CX P w) outer P w H s Q E) s
section
variable {P : Program} {w : World} {K : Frag} {mg : Str → Option Value} {base : Heap} {k j : Nat} {f : Addr} {fd : FuncData} {ps : List Str} {sp sp' : Sp}
theorem FnG.mono (F : FnG P w K mg base j f fd ps sp) (h : j ≤ k) : FnG P w K mg base k f fd ps sp :=
  { len := F.len, run := fun A outer s H args us vs Q E hr => F.run A outer s H args us vs Q E (hr.mono h) }
/-- a weaker promise -/
theorem FnG.imp (F : FnG P w K mg base k f fd ps sp) (h : ∀ vs H Q E, sp' vs H Q E → sp vs H Q E) : FnG P w K mg base k f fd ps sp' :=
  { len := fun vs H Q E q => F.len vs H Q E (h _ _ _ _ q), run := fun A outer s H args us vs Q E hr hg he hb hv hs => F.run A outer s H args us vs Q E hr hg he hb hv (h _ _ _ _ hs) }
theorem fnG_of {x qual : Str} {st : Stmt} {N : List Str} (F : Fun K x qual st f fd) (S : FnScope N ps (defScope st)) (len : ∀ vs H Q E, sp vs H Q E → vs.length = ps.length)
    (hbody : ∀ (cdv : Value) (A : Around) (outer : List Env) (s : Shared) (H : Hp) (vs : List V) (Q : VK) (E : XK), Room k (A.deeper (envOfC qual (defScope st) s.heap.objs.size f cdv)) → A.guards = some [] → sp vs H Q E →
      ∃ t, PSs (cxOf (L2.CX P w) P w K mg base N qual (defScope st) f cdv A outer s H E) (defBody st) t ∧ t { nx := fun _ H' => fz Q .non H', rt := fz Q } (L2.start N vs) H) : FnG P w K mg base (k + 1) f fd ps sp := by
  obtain ⟨oc, od, kV, doc, pm, an, cdv, ct, osl, rfl, lk, hcd⟩ := F.ex
  refine ⟨len, fun A outer s H args us vs Q E hr hg e0 hb r hsp => ?_⟩
  have hlen := len vs H Q E hsp
  have inS : K.In s.heap := e0.mod.kin.keeps fun b o e => (e0.bs b o e).1
  have nolim : s.heap.NoLimit := e0.mod.nolimit.keeps fun b o e => (e0.bs b o e).1
  have params : ∀ y ∈ ps.zip us, (defScope st).names.lookup y.1 = some .local ∨ ((defScope st).names.lookup y.1 = some .cell ∧ ((cellsFrom (s.heap.objs.size + 1) (defScope st).names []).lookup y.1).isSome = true) := by
    intro y hy
    rcases S.par y.1 (List.of_mem_zip hy).1 with q | q
    · exact Or.inl q
    · exact Or.inr ⟨q, PySem.W.cellsFrom_some _ _ _ (Or.inl q)⟩
  refine codeAny_call_function hr.depth (inS _ _ lk) rfl S.co S.gen rfl (PySem.W.codeRec_of inS hcd) (hb _ _ _ _ ?_)
  refine wpAny_newFunctionEnv_cells S.kind params ?_
  intro env he s1 x
  subst he
  refine ⟨nolim.keeps x.toInCall.keep, codeAny_func ?_⟩
  obtain ⟨t, ht, hq⟩ := hbody cdv A outer s H vs Q E (hr.deeper _) hg hsp
  have I := inv_start (CX := L2.CX P w) (E := E) (mg := mg) (base := base) (f := f) (cd := cdv) (outer := outer) S hr.hd e0 hlen r x
  refine wpAny_mono (ht.run [] s1 _ H _ I hq) ?_ fun e s' hs => hs
  intro fl s' hs
  cases fl with
  | ret u =>
    obtain ⟨v, σ', H1, J1, rv, q1⟩ := hs
    obtain ⟨H', J, q⟩ := q1.run J1
    exact ⟨v, H', J.os, J.bare, J.base, J.hok, rv, q⟩
  | next =>
    obtain ⟨σ', H1, J1, q1⟩ := hs
    obtain ⟨H', J, q⟩ := q1.run J1
    exact ⟨V.non, H', J.os, J.bare, J.base, J.hok, rfl, q⟩
  | brk => obtain ⟨_, _, _, q⟩ := hs; exact q.elim
  | cont => obtain ⟨_, _, _, q⟩ := hs; exact q.elim
end
/-! ### a promise over trees -/
abbrev Sp' := List U → Mp → QK → XK' → Prop
/-- an exception as it lies -/
def XRep (K : Frag) (H : Hp) (C : Addr) (fs : List (Str × U)) (cls : Value) (d : Option Addr) : Prop :=
  cls = .ref C ∧ ((fs = [] ∧ d = none) ∨ ∃ dd l, d = some dd ∧ H dd = some (.xd l) ∧ fs.map (·.1) = l.map (·.1) ∧ RepL K H (fs.map (·.2)) (l.map (·.2)))
def PostX (K : Frag) (H : Hp) (M : Mp) (e : XK') (E : XK) : Prop := ∀ C fs M', e C fs M' → ∀ cls d H', XRep K H' C fs cls d → RM K H' M' → SK H M H' M' → E cls d H'
def lowSp (K : Frag) (sp : Sp') : Sp := fun vs H Q E => ∃ us M q e, RepL K H us vs ∧ RM K H M ∧ sp us M q e ∧ Post K H M q Q ∧ PostX K H M e E
/-- what is wanted of exceptions within a body: h0, m0 the entry -/
def lowW (K : Frag) (W : WX') : WX := fun cls d σ H => ∃ C fs z M, XRep K H C fs cls d ∧ RS K H σ z ∧ RM K H M ∧ W C fs z M
def eCall (sp : Sp') (W : WX') (ta : TA') : TE' := fun z M q => ta z M fun us M1 => sp us M1 q fun C fs M2 => W C fs z M2
section
variable {X : Cx} {k : Nat} {f C : Addr} {fd : FuncData} {ps : List Str} {x m : Str} {p pos apos : Pos} {e o : Expr} {es : List Expr}
/-- a callee runs; what it lets out is wished for at the slots -/
theorem run_fnG {pins : List (Addr × Obj)} {σ : L2.St} {H : Hp} {s : Shared} {Q : VK} {us : List Value} {vs : List V} {sp : Sp} {W : WX} (F : FnG X.prog X.w X.K X.mg X.base k f fd ps sp) (hr : Room k X.A) (hg : X.A.guards = some []) (hb : Binds X.K fd ps [])
    (tk : Takes X W) (I : Inv X pins σ H s) (r : Vals vs us) (h : sp vs H Q (fun c d H' => W c d σ H')) : wpAny (model X.prog X.w) X.A (call (.ref f) us) (EP X pins σ Q) X.xe s := by
  have hl : (us ++ []).length = ps.length := by rw [List.append_nil, ← r.length]; exact F.len _ _ _ _ h
  have hb' := hb s us I.kIn hl
  rw [List.append_nil] at hb'
  refine wpAny_call (codeAny_mono (F.run X.A X.stack s H ⟨us, []⟩ us vs Q _ hr hg I.env0 hb' r h) ?_)
  intro res s' hq
  cases res with
  | error er => exact tk _ _ (XE.of_call I (fun _ _ _ w => w) hq)
  | ok fl =>
    cases fl with
    | ret u => exact I.after hq
    | next => exact hq.elim
    | brk => exact hq.elim
    | cont => exact hq.elim
theorem low_call {K : Frag} {sp : Sp'} {W : WX'} {us : List U} {vs : List V} {σ : L2.St} {z : SL} {H : Hp} {M : Mp} {q : QK} {Q : VK} (r : RepL K H us vs) (m : RM K H M) (hs : RS K H σ z) (P : Post K H M q Q)
    (h : sp us M q fun C fs M2 => W C fs z M2) : lowSp K sp vs H Q (fun c d H' => lowW K W c d σ H') :=
  ⟨us, M, q, _, r, m, h, P, fun C fs M' w cls d H' xr m' k' => ⟨C, fs, z, M', xr, hs.keep k'.tk, m', w⟩⟩
theorem qe_call {sp : Sp'} {W : WX'} {ta : TA'} (F : FnG X.prog X.w X.K X.mg X.base k f fd ps (lowSp X.K sp)) (hr : Room k X.A) (hg : X.A.guards = some []) (tk : Takes X (lowW X.K W)) (hm : X.mg x = some (.ref f)) (hk : PySem.W.keepIn X.K (.ref f) = true) (hb : Binds X.K fd ps [])
    (ha : QA X (e :: es) ta) (hgl : Gl X x := by rfl) (hdb : (x == ("__debug__" : Str)) = false := by decide) (he : starEach (e :: es) X.env = (false, eval e X.env) :: starEach es X.env := by rfl) (hpl : (backTo pos (starEach es X.env)).any (·.1) = false := by rfl) :
    QE X (.Call (.Name x p) (e :: es) [] pos) (eCall sp W ta) := by
  refine ⟨fun pins s σ H Q I h => ?_⟩
  obtain ⟨z, M, q, hs, m, hq, P⟩ := h
  refine wpAny_Call_Name_kw (ld_glob I hgl hm ?_ hdb)
  refine PySem.W.callWith_K (h₀ := X.base) I.ok.mod.kin hk ?_ he hpl
  refine thn (ha.run pos pins s σ H (fun vs H1 => lowSp X.K sp vs H1 Q (fun c d H' => lowW X.K W c d σ H')) I ⟨z, M, _, hs, m, hq, ?_⟩) ?_
  · intro us M1 h1 vs H1 r m1 k1
    exact low_call r m1 (hs.keep k1.tk) (P.step k1) h1
  · intro us s1 h1
    obtain ⟨vs, H1, I1, r, q1⟩ := h1
    exact ⟨I1.kIn, run_fnG (us := us) F hr hg hb tk I1 r q1⟩
theorem qe_call0 {sp : Sp'} {W : WX'} (F : FnG X.prog X.w X.K X.mg X.base k f fd ps (lowSp X.K sp)) (hr : Room k X.A) (hg : X.A.guards = some []) (tk : Takes X (lowW X.K W)) (hm : X.mg x = some (.ref f)) (hk : PySem.W.keepIn X.K (.ref f) = true) (hb : Binds X.K fd ps [])
    (hgl : Gl X x := by rfl) (hdb : (x == ("__debug__" : Str)) = false := by decide) :
    QE X (.Call (.Name x p) [] [] pos) (eCall sp W fun _ M q => q [] M) := by
  refine ⟨fun pins s σ H Q I h => ?_⟩
  obtain ⟨z, M, q, hs, m, hq, P⟩ := h
  refine wpAny_Call_Name_kw (ld_glob I hgl hm ?_ hdb)
  exact PySem.W.callWith_K0 I.kIn hk (run_fnG (us := []) (vs := []) F hr hg hb tk I .nil (low_call .nil m hs P hq))
/-! ### argument lists, displays -/
def eNil : TA' := fun _ M q => q [] M
def eCons (a : TE') (r : TA') : TA' := fun z M q => a z M fun x M1 => r z M1 fun xs M2 => q (x :: xs) M2
theorem qa_nil : QA X [] eNil := imA pa_nil fun σ H Q h => by
  obtain ⟨z, M, q, hs, m, hq, P⟩ := h
  exact P [] M hq [] H .nil m (.refl H M)
theorem qa_cons {ta : TE'} {tr : TA'} (ha : QE X e ta) (hr : QA X es tr) (hs : starEach (e :: es) X.env = (false, eval e X.env) :: starEach es X.env := by rfl) : QA X (e :: es) (eCons ta tr) := imA (pa_cons ha hr hs) fun σ H Q h => by
  obtain ⟨z, M, q, hs, m, hq, P⟩ := h
  refine ⟨z, M, _, hs, m, hq, fun x M1 h1 v H1 r1 m1 k1 => ?_⟩
  refine ⟨z, M1, _, hs.keep k1.tk, m1, h1, fun xs M2 h2 vs H2 r2 m2 k2 => ?_⟩
  exact P _ _ h2 _ _ (.cons (r1.keep k2.tk) r2) m2 (k1.trans k2)
def eTup (t : TA') : TE' := fun z M q => t z M fun xs M1 => xs.length ≤ sizeLine ∧ newT xs M1 q
def eLst (t : TA') : TE' := fun z M q => t z M fun xs M1 => xs.length ≤ sizeLine ∧ newL xs M1 q
theorem qe_tup {ta : TA'} {x1} (h : QA X es ta) : QE X (.Tuple es x1 pos) (eTup ta) := imE (pe_tup h) fun σ H Q h => by
  obtain ⟨z, M, q, hs, m, hq, P⟩ := h
  refine ⟨z, M, _, hs, m, hq, fun us M1 h1 vs H1 r1 m1 k1 => ⟨by rw [← r1.len]; exact h1.1, fun p hp => newT_ok m1 r1 h1.2 (P.step k1) hp⟩⟩
theorem qe_lst {ta : TA'} (h : QA X es ta) : QE X (.List es pos) (eLst ta) := imE (PE.fz (pe_lst h)) fun σ H Q h => by
  obtain ⟨z, M, q, hs, m, hq, P⟩ := h
  refine ⟨z, M, _, hs, m, hq, fun us M1 h1 vs H1 r1 m1 k1 => ⟨by rw [← r1.len]; exact h1.1, fun p hp => newL_ok m1 r1 h1.2 (P.step k1) hp⟩⟩
end
end L3

set_option Elab.async false
set_option linter.all false
set_option maxRecDepth 100000
set_option maxHeartbeats 4000000
namespace L3
open PySem PySem.Spec L2
open PyProof.Rows hiding St
theorem fz.mono {Q Q' : VK} {v : V} {H : Hp} (h : fz Q v H) (k : ∀ H, Q v H → Q' v H) : fz Q' v H := by
  induction h with
  | here q => exact .here (k _ q)
  | lock e _ ih => exact .lock e fun o => ih o
/-! ### where a def ends: what it made may be dropped, its lists locked -/
def Gz (q : QK) : QK := fun u M => ∀ (K : Frag) (H : Hp) (v : V), Rep K H u v → RM K H M → fz (fun v H' => TK H H' ∧ ∃ u' M', q u' M' ∧ Rep K H' u' v ∧ RM K H' M') v H
section
variable {q : QK} {u : U} {M : Mp} {a : Addr} {xs : List U}
theorem Gz.here (h : q u M) : Gz q u M := fun K H v r m => .here ⟨.refl H, u, M, h, r, m⟩
theorem RM.drp {K : Frag} {H : Hp} (m : RM K H M) : RM K H (drp M a) := fun b o e => by
  by_cases z : b = a
  · rw [z, drp_same] at e; cases e
  · rw [drp_ne z] at e; exact m b o e
theorem Gz.drp (h : Gz q u (drp M a)) : Gz q u M := fun K H v r m => h K H v r m.drp
theorem Gz.frz (e : M a = some (.lst xs)) (h : Gz q (.lst xs) (L3.drp M a)) : Gz q (.ref a) M := fun K H v r m => by
  obtain ⟨vs, ha, rv⟩ := m a _ e
  have ev := rref r
  subst ev
  refine .lock ha fun o => ?_
  have tk : TK H (upd H a (.frz o (.lst vs))) := .wr ha (fun xs z => nomatch z) fun o x z => nomatch z
  have m' : RM K (upd H a (.frz o (.lst vs))) (L3.drp M a) := fun b x eb => by
    have nb : b ≠ a := fun z => by rw [z, drp_same] at eb; cases eb
    rw [drp_ne nb] at eb
    exact (m b x eb).keep tk (fun y hy => by rw [upd_ne nb]; exact hy) fun c hc => by rw [upd_ne (fun z => by rw [z, ha] at hc; cases hc)]; exact hc
  have r' : Rep K (upd H a (.frz o (.lst vs))) (.lst xs) (.ref a) := by
    simp only [Rep]
    exact ⟨a, vs, rfl, .inl ⟨o, upd_same⟩, rv.keep tk⟩
  exact (h K _ _ r' m').mono fun H2 ⟨k2, w⟩ => ⟨tk.trans k2, w⟩
theorem Gz.post {K : Frag} {H : Hp} {Q : VK} (P : Post K H M q Q) : Post K H M (Gz q) (fz Q) := fun u M' h v H' r m k =>
  (h K H' v r m).mono fun H2 ⟨k2, u', M2, q2, r2, m2⟩ => P u' M2 q2 v H2 r2 m2 (k.trans ⟨k2⟩)
end
section
variable {P : Program} {w : World} {K : Frag} {mg : Str → Option Value} {base : Heap} {k : Nat} {f : Addr} {fd : FuncData} {ps : List Str}
/-- a def by its body, over trees -/
theorem fn_tree {x qual : Str} {st : Stmt} {N : List Str} {sp : Sp'} (F : Fun K x qual st f fd) (S : FnScope N ps (defScope st)) (len : ∀ us M q e, sp us M q e → us.length = ps.length)
    (hbody : ∀ (cdv : Value) (A : Around) (outer : List Env) (s : Shared) (H : Hp) (E : XK) (us : List U) (M : Mp) (q : QK) (e : XK'), Room k (A.deeper (envOfC qual (defScope st) s.heap.objs.size f cdv)) → A.guards = some [] →
      Takes (cxOf (L2.CX P w) P w K mg base N qual (defScope st) f cdv A outer s H E) (lowW K fun C fs _ M' => e C fs M') → sp us M q e →
      ∃ t, QSs (cxOf (L2.CX P w) P w K mg base N qual (defScope st) f cdv A outer s H E) (defBody st) t ∧ t { nx := fun _ M' => Gz q .non M', rt := Gz q } (startU N.length us) M) : FnG P w K mg base (k + 1) f fd ps (lowSp K sp) := by
  refine fnG_of F S ?_ ?_
  · rintro vs H Q E ⟨us, M, q, e, r, _, h, _⟩
    rw [← r.len]
    exact len us M q e h
  · intro cdv A outer s H vs Q E hr hg hsp
    obtain ⟨us, M, q, e, r, m, h, P1, P2⟩ := hsp
    have tk : Takes (cxOf (L2.CX P w) P w K mg base N qual (defScope st) f cdv A outer s H E) (lowW K fun C fs _ M' => e C fs M') := by
      intro u s' hx
      obtain ⟨a, B, sI, pins, σ, H', cls, d, eu, I, nb, up, sky, na, os, ag, C, fs, z, M', xr, _, m', w'⟩ := hx
      refine takes_of (X := cxOf (L2.CX P w) P w K mg base N qual (defScope st) f cdv A outer s H E) (E := E) rfl rfl rfl rfl u s' ?_
      exact ⟨a, B, sI, pins, σ, H', cls, d, eu, I, nb, up, sky, na, os, ag, P2 C fs M' w' cls d H' xr m' ⟨I.base.tups, I.base.frzs⟩⟩
    obtain ⟨t, ht, hq⟩ := hbody cdv A outer s H E us M q e hr hg tk h
    refine ⟨_, ht, startU N.length us, M, _, RS.start r, m, hq, ?_⟩
    exact ⟨fun z M' h' σ H' rs m' k' => Gz.post P1 _ _ h' _ _ (by simp only [Rep]) m' k', Gz.post P1, fun _ _ h' => h'.elim, fun _ _ h' => h'.elim⟩
end
/-! ### statements -/
section
variable {X : Cx} {st : Stmt} {rest a b : List Stmt} {t u : TS'} {e c : Expr} {te : TE'} {tc : TT'} {pos : Pos}
def sNext : TS' := fun d z M => d.nx z M
def sSeq (t u : TS') : TS' := fun d z M => t { d with nx := u d } z M
theorem qss_nil : QSs X [] sNext := imSs pss_nil fun D σ H ⟨z, M, d, rs, m, h, P⟩ => P.nx z M h σ H rs m (.refl H M)
theorem qss_one (h : QS X st t) : QSs X [st] t := pss_one h
theorem qss_cons (h1 : QS X st t) (h2 : QSs X rest u) : QSs X (st :: rest) (sSeq t u) := imSs (pss_cons h1 h2) fun D σ H ⟨z, M, d, rs, m, h, P⟩ =>
  ⟨z, M, _, rs, m, h, ⟨fun z' M' h' σ' H' rs' m' k' => ⟨z', M', d, rs', m', h', P.step k'⟩, P.rt, P.bk, P.ct⟩⟩
def sBreak : TS' := fun d z M => d.bk z M
def sCont : TS' := fun d z M => d.ct z M
theorem qs_pass : QS X (.Pass pos) sNext := imS ps_pass fun D σ H ⟨z, M, d, rs, m, h, P⟩ => P.nx z M h σ H rs m (.refl H M)
theorem qs_break : QS X (.Break pos) sBreak := imS ps_break fun D σ H ⟨z, M, d, rs, m, h, P⟩ => P.bk z M h σ H rs m (.refl H M)
theorem qs_continue : QS X (.Continue pos) sCont := imS ps_continue fun D σ H ⟨z, M, d, rs, m, h, P⟩ => P.ct z M h σ H rs m (.refl H M)
def sExpr (te : TE') : TS' := fun d z M => te z M fun _ M1 => d.nx z M1
theorem qs_expr (he : QE X e te) (hs : swapsWith e none pos.line X.env = pure false := by rfl) : QS X (.Expr e pos) (sExpr te) := imS (ps_expr he hs) fun D σ H ⟨z, M, d, rs, m, h, P⟩ =>
  ⟨z, M, _, rs, m, h, fun u M' h' v H' r m' k' => P.nx z M' h' σ H' (rs.keep k'.tk) m' k'⟩
def sRet (te : TE') : TS' := fun d z M => te z M d.rt
theorem qs_ret (he : QE X e te) : QS X (.Return (some e) pos) (sRet te) := imS (ps_ret he) fun D σ H ⟨z, M, d, rs, m, h, P⟩ => ⟨z, M, _, rs, m, h, P.rt⟩
def sRetN : TS' := fun d _ M => d.rt .non M
theorem qs_retN : QS X (.Return none pos) sRetN := imS ps_retN fun D σ H ⟨z, M, d, rs, m, h, P⟩ => P.rt _ _ h _ _ (by simp only [Rep]) m (.refl H M)
def ifB (c : Bool) (p r : Prop) : Prop := match c with
  | true => p
  | false => r
def sIf (c : TT') (t u : TS') : TS' := fun d z M => c z M fun b M1 => ifB b (t d z M1) (u d z M1)
theorem qs_if (hc : QT X c tc) (ha : QSs X a t) (hb : QSs X b u) : QS X (.If c a b pos) (sIf tc t u) := imS (ps_if hc ha hb) fun D σ H ⟨z, M, d, rs, m, h, P⟩ =>
  ⟨z, M, _, rs, m, h, fun b M' h' H' m' k' => by
    cases b with
    | true => exact iteT ⟨z, M', d, rs.keep k'.tk, m', h', P.step k'⟩
    | false => exact iteF ⟨z, M', d, rs.keep k'.tk, m', h', P.step k'⟩⟩
def sSet (i : Nat) (te : TE') : TS' := fun d z M => te z M fun u M1 => d.nx (setS z i (some u)) M1
theorem low_set {K : Frag} {i : Nat} {te : TE'} {D : Ends} {σ : L2.St} {H : Hp} (h : lowS K (sSet i te) D σ H) : tAsg (lowE K te) (gName i) D σ H := by
  obtain ⟨z, M, d, rs, m, h, P⟩ := h
  exact ⟨z, M, _, rs, m, h, fun u M' h' v H' r m' k' => P.nx _ M' h' _ H' ((rs.keep k'.tk).set r) m' k'⟩
theorem qs_set {i : Nat} {x : Str} {pos' : Pos} (hN : X.N.Nodup) (he : QE X e te) (hi : X.N[i]? = some x := by rfl) (hx : Loc X.env.scope x := by first | exact Or.inl rfl | exact Or.inr rfl) (hs : swapsWith e (some (.Name x pos')) pos.line X.env = pure false := by rfl)
    (hf : X.fn x = true ∨ X.env.scope.names.lookup x = some .local := by first | exact .inl rfl | exact .inr rfl | assumption) : QS X (.Assign [.Name x pos'] e pos) (sSet i te) := imS (ps_set hN hi hx he hs hf) fun _ _ _ h => low_set h
/-- while: W what holds ahead of each test, with a measure -/
def sWhile (c : TT') (t : TS') : TS' := fun d z M => ∃ W : Nat → SL → Mp → Prop, (∃ n, W n z M) ∧ ∀ n z M, W n z M → c z M fun b M1 => ifB b (t { d with nx := fun z' M' => ∃ n', n' < n ∧ W n' z' M', ct := fun z' M' => ∃ n', n' < n ∧ W n' z' M', bk := d.nx } z M1) (d.nx z M1)
theorem qs_while (hp : PassesOwn (model X.prog X.w) X.A X.env X.xe) (hc : QT X c tc) (hb : QSs X b t) : QS X (.While c b [] pos) (sWhile tc t) := imS (ps_while hp hc hb) fun D σ H ⟨z, M, d, rs, m, ⟨W, ⟨n, w0⟩, tn⟩, P⟩ => by
  refine ⟨fun n σ' H' => ∃ z' M', RS X.K H' σ' z' ∧ RM X.K H' M' ∧ W n z' M' ∧ TK H H', ⟨n, z, M, rs, m, w0, .refl H⟩, ?_⟩
  rintro n σ1 H1 ⟨z1, M1, rs1, m1, w1, k1⟩
  refine ⟨z1, M1, _, rs1, m1, tn n z1 M1 w1, fun b M2 h2 H2 m2 k2 => ?_⟩
  have k12 : SK H M H2 M2 := ⟨k1.trans k2.tk⟩
  cases b with
  | true =>
    refine iteT ⟨fun σ' H' => ∃ n' z' M', n' < n ∧ RS X.K H' σ' z' ∧ RM X.K H' M' ∧ W n' z' M' ∧ TK H H', fun σ' H' ⟨n', z', M', l, q1, q2, q3, q4⟩ => ⟨n', l, z', M', q1, q2, q3, q4⟩, ?_⟩
    have go : PostS X.K H2 M2 (fun z' M' => ∃ n', n' < n ∧ W n' z' M') (fun σ' H' => ∃ n' z' M', n' < n ∧ RS X.K H' σ' z' ∧ RM X.K H' M' ∧ W n' z' M' ∧ TK H H') :=
      fun z' M' ⟨n', l, w'⟩ σ' H' rs' m' k' => ⟨n', z', M', l, rs', m', w', k12.tk.trans k'.tk⟩
    exact ⟨z1, M2, _, rs1.keep k2.tk, m2, h2, ⟨go, P.rt.step k12, P.nx.step k12, go⟩⟩
  | false => exact iteF (P.nx z1 M2 h2 σ1 H2 (rs1.keep k2.tk) m2 k12)
end
end L3

set_option Elab.async false
set_option linter.all false
set_option maxRecDepth 100000
set_option maxHeartbeats 4000000
namespace L3
open PySem PySem.Spec L2
open PyProof.Rows hiding St
/-! ### targets -/
abbrev TG' := U → SL → Mp → (SL → Mp → Prop) → Prop
abbrev TGs' := List U → SL → Mp → (SL → Mp → Prop) → Prop
def lowG (K : Frag) (t : TG') : TG := fun v σ H Q => ∃ u z M q, Rep K H u v ∧ RS K H σ z ∧ RM K H M ∧ t u z M q ∧ PostS K H M q Q
def lowGs (K : Frag) (t : TGs') : TGs := fun vs σ H Q => ∃ us z M q, RepL K H us vs ∧ RS K H σ z ∧ RM K H M ∧ t us z M q ∧ PostS K H M q Q
def QG (X : Cx) (e : Expr) (t : TG') : Prop := PG X e (lowG X.K t)
def QGs (X : Cx) (es : List Expr) (t : TGs') : Prop := PGs X es (lowGs X.K t)
theorem imG {X : Cx} {e : Expr} {t t' : TG} (h : PG X e t) (k : ∀ v σ H Q, t' v σ H Q → t v σ H Q) : PG X e t' := ⟨fun pins s σ H v u Q I r w => h.run pins s σ H v u Q I r (k v σ H Q w)⟩
theorem imGs {X : Cx} {es : List Expr} {t t' : TGs} (h : PGs X es t) (k : ∀ v σ H Q, t' v σ H Q → t v σ H Q) : PGs X es t' := ⟨fun pins s σ H v u Q I r w => h.run pins s σ H v u Q I r (k v σ H Q w)⟩
theorem PG.or {X : Cx} {e : Expr} {t t' : TG} (h : PG X e t) (h' : PG X e t') : PG X e (fun v σ H Q => t v σ H Q ∨ t' v σ H Q) :=
  ⟨fun pins s σ H v u Q I r w => w.elim (h.run pins s σ H v u Q I r) (h'.run pins s σ H v u Q I r)⟩
def gN (i : Nat) : TG' := fun u z M q => q (setS z i (some u)) M
def gsNil : TGs' := fun us z M q => match us with
  | [] => q z M
  | _ :: _ => False
def gsCons (t : TG') (r : TGs') : TGs' := fun us z M q => match us with
  | [] => False
  | u :: us => t u z M fun z1 M1 => r us z1 M1 q
/-- a, b, .. = a tuple or a list of n things -/
structure gTuple (n : Nat) (t : TGs') (u : U) (z : SL) (M : Mp) (q : SL → Mp → Prop) : Prop where
  h : match seqT u with
    | some xs => xs.length = n ∧ t xs z M q
    | none => ∃ xs, seqL M u = some xs ∧ xs.length = n ∧ t xs z M q
section
variable {X : Cx} {pos : Pos}
theorem qg_name {i : Nat} {x : Str} (hN : X.N.Nodup) (hi : X.N[i]? = some x := by rfl) (hx : Loc X.env.scope x := by first | exact Or.inl rfl | exact Or.inr rfl)
    (hf : X.fn x = true ∨ X.env.scope.names.lookup x = some .local := by first | exact .inl rfl | exact .inr rfl | assumption) : QG X (.Name x pos) (gN i) := imG (pg_name hN hi hx hf) fun v σ H Q ⟨u, z, M, q, r, rs, m, h, P⟩ =>
  P _ M h _ H (rs.set r) m (.refl H M)
theorem qgs_nil : QGs X [] gsNil := imGs pgs_nil fun v σ H Q ⟨us, z, M, q, r, rs, m, h, P⟩ => by
  cases us with
  | nil => simp only [RepL] at r; exact ⟨r, P z M h σ H rs m (.refl H M)⟩
  | cons _ _ => exact (show False from h).elim
theorem qgs_cons {e : Expr} {es : List Expr} {t : TG'} {r : TGs'} (h1 : QG X e t) (h2 : QGs X es r) (hs : (assignEach (e :: es) X.env).map (·.2) = assign e X.env :: (assignEach es X.env).map (·.2) := by rfl) : QGs X (e :: es) (gsCons t r) :=
  imGs (pgs_cons h1 h2 hs) fun v σ H Q ⟨us, z, M, q, rr, rs, m, h, P⟩ => by
    cases us with
    | nil => exact (show False from h).elim
    | cons u us =>
      simp only [RepL] at rr
      obtain ⟨x, xs, rfl, r1, r2⟩ := rr
      exact ⟨x, xs, rfl, u, z, M, _, r1, rs, m, h, fun z1 M1 q1 σ1 H1 rs1 m1 k1 => ⟨us, z1, M1, q, r2.keep k1.tk, rs1, m1, q1, P.step k1⟩⟩
theorem qg_tup {es : List Expr} {k : Nat} {t : TGs'} {n : Nat} (hc : X.calm = true) (h : QGs X es t) (hn : (assignEach es X.env).length = n := by rfl) (hst : (assignEach es X.env).findIdx? (·.1) = none := by rfl) : QG X (.Tuple es k pos) (gTuple n t) :=
  imG (PG.or (pg_tup hc h hn hst) (pg_unl hc h hn hst)) fun v σ H Q ⟨u, z, M, q, r, rs, m, w, P⟩ => by
    have w' : (match seqT u with | some xs => xs.length = n ∧ t xs z M q | none => ∃ xs, seqL M u = some xs ∧ xs.length = n ∧ t xs z M q) := w.h
    cases e : seqT u with
    | some xs =>
      rw [e] at w'
      obtain ⟨a, vs, ev, s, r'⟩ := seqT_of e r
      exact .inl ⟨a, vs, ev, s, by rw [← r'.len]; exact w'.1, xs, z, M, q, r', rs, m, w'.2, P⟩
    | none =>
      rw [e] at w'
      obtain ⟨xs, e1, l, w1⟩ := w'
      obtain ⟨a, vs, ev, s, r'⟩ := seqL_of m e1 r
      exact .inr ⟨a, vs, ev, s, by rw [← r'.len]; exact l, xs, z, M, q, r', rs, m, w1, P⟩
/-- target = e -/
def sAsg (te : TE') (g : TG') : TS' := fun d z M => te z M fun u M1 => g u z M1 d.nx
theorem qs_asg {tg e : Expr} {te : TE'} {g : TG'} (he : QE X e te) (hg : QG X tg g) (hs : swapsWithSole [tg] e pos.line X.env = pure false := by rfl) (hw : swappedStores [tg] e X.env = pure none := by rfl)
    (h1 : (assignEach [tg] X.env).map (·.2) = [assign tg X.env] := by rfl) : QS X (.Assign [tg] e pos) (sAsg te g) := imS (ps_asg he hg hs hw h1) fun D σ H ⟨z, M, d, rs, m, h, P⟩ =>
  ⟨z, M, _, rs, m, h, fun u M' h' v H' r m' k' => ⟨u, z, M', d.nx, r, rs.keep k'.tk, m', h', P.nx.step k'⟩⟩
/-- a, b = e1, e2 with plain local names -/
def two (us : List U) (k : U → U → Prop) : Prop := match us with
  | [u, w] => k u w
  | _ => False
theorem two_inv {us : List U} {k : U → U → Prop} (h : two us k) : ∃ u w, us = [u, w] ∧ k u w := by
  match us, h with
  | [u, w], h => exact ⟨u, w, rfl, h⟩
def sPar (i j : Nat) (ta : TA') : TS' := fun d z M => ta z M fun us M1 => two us fun u w => d.nx (setS (setS z i (some u)) j (some w)) M1
theorem qs_par {i j : Nat} {x y : Str} {a b : Expr} {ta : TA'} {px py pt : Pos} {kt k2 pt2} (hc : X.calm = true) (hN : X.N.Nodup) (ha : QA X [a, b] ta) (hi : X.N[i]? = some x := by rfl) (hj : X.N[j]? = some y := by rfl) (hij : i ≠ j := by decide)
    (hx : X.env.scope.names.lookup x = some .local := by rfl) (hy : X.env.scope.names.lookup y = some .local := by rfl)
    (hw : swappedStores [.Tuple [.Name x px, .Name y py] kt pt] (.Tuple [a, b] k2 pt2) X.env = pure (some [x, y]) := by rfl)
    (hs : swapsWithSole [.Tuple [.Name x px, .Name y py] kt pt] (.Tuple [a, b] k2 pt2) pos.line X.env = pure false := by rfl) :
    QS X (.Assign [.Tuple [.Name x px, .Name y py] kt pt] (.Tuple [a, b] k2 pt2) pos) (sPar i j ta) := imS (ps_par hc hN hi hj hij hx hy ha hw hs) fun D σ H ⟨z, M, d, rs, m, h, P⟩ =>
  ⟨z, M, _, rs, m, h, fun us M' h' vs H' r m' k' => by
    obtain ⟨u, w, rfl, h2⟩ := two_inv h'
    simp only [RepL] at r
    obtain ⟨v1, r1, rfl, q1, v2, r2, rfl, q2, rfl⟩ := r
    exact ⟨v1, v2, rfl, P.nx _ M' h2 _ H' (((rs.keep k'.tk).set q1).set q2) m' k'⟩⟩
end
/-! ### what is walked: its items, what must hold while it is walked -/
abbrev TI' := SL → Mp → (List U → (Mp → Prop) → Mp → Prop) → Prop
/-- J yields the trees xs, while side holds -/
def Iters (K : Frag) (J : It) (xs : List U) (side : Mp → Prop) (H1 : Hp) : Prop := ∀ (i : Nat) (H : Hp) (M : Mp), TK H1 H → RM K H M → side M →
  (∀ x, xs[i]? = some x → J.go i H ∧ ∀ v H', J.yld i H v H' → Rep K H' x v ∧ RM K H' M ∧ TK H H') ∧ (xs.length ≤ i → J.stop i H)
def lowI (K : Frag) (t : TI') : TI := fun σ H R => ∃ z M r, RS K H σ z ∧ RM K H M ∧ t z M r ∧ ∀ xs side M1, r xs side M1 → ∀ J H1, Iters K J xs side H1 → RM K H1 M1 → TK H H1 → R J H1
def QI (X : Cx) (tg it : Expr) (t : TI') : Prop := PI X tg it (lowI X.K t)
theorem imI {X : Cx} {tg it : Expr} {t t' : TI} (h : PI X tg it t) (k : ∀ σ H R, t' σ H R → t σ H R) : PI X tg it t' := ⟨fun pins s σ H R I w => h.run pins s σ H R I (k σ H R w)⟩
theorem PI.or {X : Cx} {tg it : Expr} {t t' : TI} (h : PI X tg it t) (h' : PI X tg it t') : PI X tg it (fun σ H R => t σ H R ∨ t' σ H R) := ⟨fun pins s σ H R I w => w.elim (h.run pins s σ H R I) (h'.run pins s σ H R I)⟩
/-- for: W by the turn -/
def sFor (it : TI') (g : TG') (t : TS') : TS' := fun d z M => it z M fun xs side M1 => ∃ W : Nat → SL → Mp → Prop, W 0 z M1 ∧ (∀ i z M, W i z M → side M) ∧
  (∀ (i : Nat) x z M, xs[i]? = some x → W i z M → g x z M fun z2 M2 => t { d with nx := W (i + 1), ct := W (i + 1), bk := d.nx } z2 M2) ∧ ∀ z M, W xs.length z M → d.nx z M
section
variable {X : Cx} {pos : Pos} {tg iter : Expr} {body : List Stmt} {it : TI'} {g : TG'} {t : TS'}
theorem qs_for (hp : PassesOwn (model X.prog X.w) X.A X.env X.xe) (hc : X.calm = true) (hi : QI X tg iter it) (hg : QG X tg g) (hb : QSs X body t) (hs : ∀ x, foldedSetIterable iter X.env x = pure x := by intro _; rfl) : QS X (.For tg iter body [] pos) (sFor it g t) :=
  imS (ps_for hp hc hi hg hb hs) fun D σ H ⟨z, M, d, rs, m, h, P⟩ => by
    refine ⟨z, M, _, rs, m, h, ?_⟩
    rintro xs side M1 ⟨W, w0, ws, wt, wd⟩ J H1 IJ m1 k1
    refine ⟨fun i n σ' H' => n = xs.length - i ∧ i ≤ xs.length ∧ ∃ z' M', RS X.K H' σ' z' ∧ RM X.K H' M' ∧ W i z' M' ∧ TK H1 H', ⟨xs.length, by simp, Nat.zero_le _, z, M1, rs.keep k1, m1, w0, .refl H1⟩, ?_⟩
    rintro i n σ2 H2 ⟨rfl, hi, z2, M2, rs2, m2, w2, k2⟩
    obtain ⟨j1, j2⟩ := IJ i H2 M2 k2 m2 (ws i z2 M2 w2)
    by_cases hl : i < xs.length
    · obtain ⟨g1, g2⟩ := j1 xs[i] (by simp [hl])
      refine .inr ⟨g1, fun σ' H' => ∃ z' M', RS X.K H' σ' z' ∧ RM X.K H' M' ∧ W (i + 1) z' M' ∧ TK H1 H', fun σ' H' ⟨z', M', q1, q2, q3, q4⟩ => ⟨xs.length - (i + 1), by omega, rfl, hl, z', M', q1, q2, q3, q4⟩, fun v H3 y => ?_⟩
      obtain ⟨r3, m3, k3⟩ := g2 v H3 y
      refine ⟨xs[i], z2, M2, _, r3, rs2.keep k3, m3, wt i xs[i] z2 M2 (by simp [hl]) w2, fun z4 M4 h4 σ4 H4 rs4 m4 k4 => ?_⟩
      have k14 : TK H1 H4 := (k2.trans k3).trans k4.tk
      have go : PostS X.K H4 M4 (W (i + 1)) (fun σ' H' => ∃ z' M', RS X.K H' σ' z' ∧ RM X.K H' M' ∧ W (i + 1) z' M' ∧ TK H1 H') := fun z' M' w' σ' H' rs' m' k' => ⟨z', M', rs', m', w', k14.trans k'.tk⟩
      exact ⟨z4, M4, _, rs4, m4, h4, ⟨go, P.rt.step ⟨k1.trans k14⟩, P.nx.step ⟨k1.trans k14⟩, go⟩⟩
    · have e : i = xs.length := by omega
      exact .inl ⟨j2 (by omega), P.nx z2 M2 (wd z2 M2 (by rw [← e]; exact w2)) σ2 H2 rs2 m2 ⟨k1.trans k2⟩⟩
end
/-! ### the things walked -/
def yes : Mp → Prop := fun _ => True
/-- the signs of a text -/
def signsU (x : Str) : List U := x.cps.toList.map fun c => .str ⟨#[c]⟩
structure iterQ (u : U) (M1 : Mp) (r : List U → (Mp → Prop) → Mp → Prop) : Prop where
  q : match u with
    | .str x => r (signsU x) yes M1
    | u => match seqT u with
      | some xs => r xs yes M1
      | none => ∃ xs, seqL M1 u = some xs ∧ r xs (fun M => seqL M u = some xs) M1
def iSeq (te : TE') : TI' := fun z M r => te z M fun u M1 => iterQ u M1 r
/-- the items of what stands there: a list's, a tuple's, a text's signs -/
theorem pi_any {X : Cx} {tg l : Expr} {tl : TE} (hl : PE X l tl) : PI X tg l (fun σ H R => tl σ H fun x H1 => (∃ a xs, x = .ref a ∧ ((SqL X.K H1 a xs ∧ R (Itl X.K a) H1) ∨ (SqT X.K H1 a xs ∧ R (Itt X.K a) H1))) ∨ ∃ y, x = .str y ∧ R (Its y) H1) := by
  refine ⟨fun pins s σ H R I h => ?_⟩
  refine thn (hl.run pins s σ H _ I h) ?_
  intro v s1 h1
  obtain ⟨x, H1, I1, r1, ⟨a, xs, ex, q⟩ | ⟨y, ex, q⟩⟩ := h1
  · subst ex
    cases r1
    have fp : ∀ b ∈ [s1.heap.objs.size], FpOk X pins H1 b := fun b hb => by
      have e : b = s1.heap.objs.size := by simpa using hb
      rw [e]
      exact I1.fpOk (Nat.le_refl _) I1.fresh
    rcases q with ⟨hq, q⟩ | ⟨hq, q⟩
    · obtain ⟨its, rv, p, hz⟩ := I1.list hq
      refine wpAny_pyIter_list p.isList ⟨s1.heap.objs.size, [s1.heap.objs.size], _, _, H1, rfl, I1.kept (t' := s1.toks) (fun b o e => Heap.get?_push_of_some _ e), turn_list a _, ⟨_, Heap.get?_push_size _ rfl, rfl, rfl⟩, fp, q⟩
    · obtain ⟨its, rv, p, hz⟩ := I1.tuple hq
      refine wpAny_pyIter_tuple (show s1.heap.IsTuple a its.toArray from p) ⟨s1.heap.objs.size, [s1.heap.objs.size], _, _, H1, rfl, I1.kept (t' := s1.toks) (fun b o e => Heap.get?_push_of_some _ e), turn_tuple a _, ⟨_, Heap.get?_push_size _ rfl, rfl, rfl⟩, fp, q⟩
  · subst ex
    obtain ⟨t, eu⟩ := r1
    subst eu
    by_cases ha : y.cps.all (· < 128) = true
    · exact wpAny_pyIter_ascii ha (pi_one (tk := s1.toks) I1 _ (turn_str _ y t "str_ascii_iterator" (.inl rfl)) ⟨_, Heap.get?_push_size _ rfl, rfl, rfl⟩ q)
    · exact wpAny_pyIter_wide (by simpa using ha) (pi_one (tk := s1.toks) I1 _ (turn_str _ y t "str_iterator" (.inr rfl)) ⟨_, Heap.get?_push_size _ rfl, rfl, rfl⟩ q)
theorem iters_str {K : Frag} {x : Str} {H1 : Hp} : Iters K (Its x) (signsU x) yes H1 := by
  intro i H M k m _
  have hl : (signsU x).length = x.cps.size := by simp [signsU]
  refine ⟨fun y hy => ?_, fun h => by rw [hl] at h; exact h⟩
  unfold signsU at hy
  rw [List.getElem?_map, Array.getElem?_toList] at hy
  cases e : x.cps[i]? with
  | none => rw [e] at hy; cases hy
  | some c =>
    rw [e] at hy
    cases hy
    have hi : i < x.cps.size := by
      obtain ⟨h, _⟩ := Array.getElem?_eq_some_iff.mp e
      exact h
    refine ⟨hi, fun v H' yl => ?_⟩
    obtain ⟨eH, c', e', rfl⟩ := yl
    subst eH
    rw [e] at e'
    cases e'
    exact ⟨.s, m, .refl _⟩
theorem iters_list {K : Frag} {a : Addr} {xs : List U} {side : Mp → Prop} {H1 : Hp} (h : ∀ H M, TK H1 H → RM K H M → side M → ∃ vs, SqL K H a vs ∧ RepL K H xs vs) : Iters K (Itl K a) xs side H1 := by
  intro i H M k m sd
  obtain ⟨vs, s, r⟩ := h H M k m sd
  refine ⟨fun x hx => ?_, fun hl => ⟨vs, s, by rw [← r.len]; exact hl⟩⟩
  obtain ⟨v, hv, rv⟩ := r.get hx
  refine ⟨⟨vs, v, s, hv⟩, fun v' H' y => ?_⟩
  obtain ⟨e, y⟩ := y
  subst e
  have e2 := (y vs s).symm.trans hv
  cases e2
  exact ⟨rv, m, .refl _⟩
theorem iters_tup {K : Frag} {a : Addr} {xs : List U} {H1 : Hp} {vs : List V} (s : SqT K H1 a vs) (r : RepL K H1 xs vs) : Iters K (Itt K a) xs yes H1 := by
  intro i H M k m _
  have s' := k.seqT s
  have r' := r.keep k
  refine ⟨fun x hx => ?_, fun hl => ⟨vs, s', by rw [← r.len]; exact hl⟩⟩
  obtain ⟨v, hv, rv⟩ := r'.get hx
  refine ⟨⟨vs, v, s', hv⟩, fun v' H' y => ?_⟩
  obtain ⟨e, y⟩ := y
  subst e
  have e2 := (y vs s').symm.trans hv
  cases e2
  exact ⟨rv, m, .refl _⟩
/-- lo, lo + 1, ..: n numbers -/
def rangeU (lo : Int) (n : Nat) : List U := (List.range n).map fun i : Nat => U.int (lo + i)
theorem rangeU_len (lo : Int) (n : Nat) : (rangeU lo n).length = n := by simp [rangeU]
theorem rangeU_get {lo : Int} {n i : Nat} {x : U} (h : (rangeU lo n)[i]? = some x) : i < n ∧ x = .int (lo + i) := by
  unfold rangeU at h
  rw [List.getElem?_map] at h
  by_cases hi : i < n
  · rw [List.getElem?_range hi] at h
    exact ⟨hi, by simpa using h.symm⟩
  · rw [List.getElem?_eq_none (by simpa using hi)] at h
    cases h
theorem iters_range {K : Frag} {lo : Int} {n : Nat} {H1 : Hp} : Iters K (Itr lo n) (rangeU lo n) yes H1 := by
  intro i H M k m _
  refine ⟨fun x hx => ?_, fun hl => ?_⟩
  · obtain ⟨hi, rfl⟩ := rangeU_get hx
    refine ⟨hi, fun v H' y => ?_⟩
    obtain ⟨e, y⟩ := y
    subst e y
    exact ⟨.i, m, .refl _⟩
  · rw [rangeU_len] at hl
    exact hl
section
variable {X : Cx} {pos p : Pos} {tg e a b c : Expr} {te : TE'} {ta : TA'}
theorem qi_seq (he : QE X e te) : QI X tg e (iSeq te) := imI (pi_any he) fun σ H R ⟨z, M, r, rs, m, h, P⟩ =>
  ⟨z, M, _, rs, m, h, fun u M1 h1 v H1 ru m1 k1 => by
    have gen : (match seqT u with | some xs => r xs yes M1 | none => ∃ xs, seqL M1 u = some xs ∧ r xs (fun M => seqL M u = some xs) M1) →
        ∃ a xs, v = V.ref a ∧ ((SqL X.K H1 a xs ∧ R (Itl X.K a) H1) ∨ (SqT X.K H1 a xs ∧ R (Itt X.K a) H1)) := fun h1' => by
      cases eq : seqT u with
      | some xs =>
        rw [eq] at h1'
        obtain ⟨a, vs, ev, s, r'⟩ := seqT_of eq ru
        exact ⟨a, vs, ev, .inr ⟨s, P xs yes M1 h1' _ H1 (iters_tup s r') m1 k1.tk⟩⟩
      | none =>
        rw [eq] at h1'
        obtain ⟨xs, e1, h2⟩ := h1'
        obtain ⟨a, vs, ev, s, r'⟩ := seqL_of m1 e1 ru
        refine ⟨a, vs, ev, .inl ⟨s, P xs _ M1 h2 _ H1 (iters_list fun H2 M2 k2 m2 sd => ?_) m1 k1.tk⟩⟩
        obtain ⟨a', vs', ev', s', r2⟩ := seqL_of m2 sd (ru.keep k2)
        have ea : a = a' := by rw [ev] at ev'; exact V.ref.inj ev'
        subst ea
        exact ⟨vs', s', r2⟩
    cases u with
    | str x => exact .inr ⟨x, rstr ru, P _ yes M1 h1.q _ H1 iters_str m1 k1.tk⟩
    | _ => exact .inl (gen h1.q)⟩
def one (us : List U) (k : U → Prop) : Prop := match us with
  | [u] => k u
  | _ => False
theorem one_inv {us : List U} {k : U → Prop} (h : one us k) : ∃ u, us = [u] ∧ k u := by
  match us, h with
  | [u], h => exact ⟨u, rfl, h⟩
def asI (u : U) (k : Int → Prop) : Prop := match u with
  | .int i => k i
  | _ => False
theorem asI_inv {u : U} {k : Int → Prop} (h : asI u k) : ∃ i, u = .int i ∧ k i := by
  cases u with
  | int i => exact ⟨i, rfl, h⟩
  | _ => exact (show False from h).elim
/-- within 62 bits -/
def w62 (i : Int) : Prop := -(2 ^ 62) ≤ i ∧ i < 2 ^ 62
def iRange (ta : TA') : TI' := fun z M r => ta z M fun us M1 => one us fun u => asI u fun j => w62 j ∧ r (rangeU 0 j.toNat) yes M1
def iRange2 (ta : TA') : TI' := fun z M r => ta z M fun us M1 => two us fun u w => asI u fun i => asI w fun j => w62 i ∧ w62 j ∧ r (rangeU i (j - i).toNat) yes M1
theorem qi_range (hm : X.mg "range" = none) (ha : QA X [a] ta) (hg : Gl X "range" := by rfl) (hs : starEach [a] X.env = [(false, eval a X.env)] := by rfl) : QI X tg (.Call (.Name "range" p) [a] [] pos) (iRange ta) := imI (pi_range1 hg hm ha hs) fun σ H R ⟨z, M, r, rs, m, h, P⟩ =>
  ⟨z, M, _, rs, m, h, fun us M1 h1 vs H1 rv m1 k1 => by
    obtain ⟨u, rfl, h2⟩ := one_inv h1
    obtain ⟨j, rfl, ⟨b1, b2⟩, h3⟩ := asI_inv h2
    simp only [RepL] at rv
    obtain ⟨v, r1, rfl, q1, rfl⟩ := rv
    exact ⟨j, by rw [rint q1], b1, b2, P _ _ M1 h3 _ H1 iters_range m1 k1.tk⟩⟩
theorem qi_range2 (hm : X.mg "range" = none) (ha : QA X [a, b] ta) (hg : Gl X "range" := by rfl) (hs : starEach [a, b] X.env = [(false, eval a X.env), (false, eval b X.env)] := by rfl) (hs2 : starEach [b] X.env = [(false, eval b X.env)] := by rfl) :
    QI X tg (.Call (.Name "range" p) [a, b] [] pos) (iRange2 ta) := imI (pi_range2 hg hm ha hs hs2) fun σ H R ⟨z, M, r, rs, m, h, P⟩ =>
  ⟨z, M, _, rs, m, h, fun us M1 h1 vs H1 rv m1 k1 => by
    obtain ⟨u, w, rfl, h2⟩ := two_inv h1
    obtain ⟨i, rfl, h3⟩ := asI_inv h2
    obtain ⟨j, rfl, ⟨b1, b2⟩, ⟨b3, b4⟩, h4⟩ := asI_inv h3
    simp only [RepL] at rv
    obtain ⟨v, r1, rfl, q1, w, r2, rfl, q2, rfl⟩ := rv
    exact ⟨i, j, by rw [rint q1, rint q2], ⟨b1, b2, b3, b4⟩, P _ _ M1 h4 _ H1 iters_range m1 k1.tk⟩⟩
/-- pairs with their places: tuples that are new -/
def enumU (xs : List U) : List U := (xs.zipIdx).map fun p => .tup [.int (p.2 : Nat), p.1]
theorem enumU_len (xs : List U) : (enumU xs).length = xs.length := by simp [enumU]
theorem enumU_get {xs : List U} {i : Nat} {x : U} (h : (enumU xs)[i]? = some x) : ∃ y, xs[i]? = some y ∧ x = .tup [.int (i : Nat), y] := by
  unfold enumU at h
  rw [List.getElem?_map, List.getElem?_zipIdx] at h
  cases e : xs[i]? with
  | none => rw [e] at h; simp at h
  | some y => rw [e] at h; exact ⟨y, rfl, by simpa using h.symm⟩
def iEnum (ta : TA') : TI' := fun z M r => ta z M fun us M1 => one us fun u => ∃ xs, seqL M1 u = some xs ∧ r (enumU xs) (fun M => seqL M u = some xs) M1
theorem qi_enum {elts : List Expr} {kk : Nat} {tpos : Pos} (hm : X.mg "enumerate" = none) (ha : QA X [e] ta) (hg : Gl X "enumerate" := by rfl) (hs : starEach [e] X.env = [(false, eval e X.env)] := by rfl) :
    QI X (.Tuple elts kk tpos) (.Call (.Name "enumerate" p) [e] [] pos) (iEnum ta) := imI (pi_enum hg hm ha hs) fun σ H R ⟨z, M, r, rs, m, h, P⟩ =>
  ⟨z, M, _, rs, m, h, fun us M1 h1 vs H1 rv m1 k1 => by
    obtain ⟨u, rfl, xs, e1, h2⟩ := one_inv h1
    simp only [RepL] at rv
    obtain ⟨v, r1, rfl, ru, rfl⟩ := rv
    obtain ⟨a, ws, rfl, s, r'⟩ := seqL_of m1 e1 ru
    refine ⟨a, ws, rfl, s, P _ _ M1 h2 _ H1 (fun i H2 M2 k2 m2 sd => ?_) m1 k1.tk⟩
    obtain ⟨a', ws', ev', s', r2⟩ := seqL_of m2 sd (ru.keep k2)
    have ea := V.ref.inj ev'
    subst ea
    refine ⟨fun x hx => ?_, fun hl => ⟨ws', s', by rw [← r2.len, ← enumU_len]; exact hl⟩⟩
    obtain ⟨y, hy, rfl⟩ := enumU_get hx
    obtain ⟨v, hv, rv⟩ := r2.get hy
    refine ⟨⟨ws', v, s', hv⟩, fun v' H' yl => ?_⟩
    obtain ⟨T, x', ev, hT, eH, yy⟩ := yl
    subst ev eH
    have e2 := (yy ws' s').symm.trans hv
    cases e2
    refine ⟨?_, m2.hid hT, .new hT⟩
    simp only [Rep]
    exact ⟨T, _, rfl, .of upd_same, .cons .i (.cons (rv.keep (.new hT)) .nil)⟩⟩
end
end L3

set_option Elab.async false
set_option linter.all false
set_option maxRecDepth 100000
set_option maxHeartbeats 4000000
namespace L3
open PySem PySem.Spec L2
open PyProof.Rows hiding St
/-! ### list comprehensions -/
def wipeS (z : SL) : List Nat → SL
  | [] => z
  | v :: vs => setS (wipeS z vs) v none
theorem RS.wipe {K : Frag} {H : Hp} {σ : L2.St} {z : SL} (h : RS K H σ z) : ∀ vs, RS K H (L2.wipe σ vs) (wipeS z vs)
  | [] => h
  | _ :: vs => (RS.wipe h vs).clr
theorem wipe_in {σ : L2.St} {i : Nat} (hi : i < σ.length) : ∀ {vs : List Nat}, i ∈ vs → (L2.wipe σ vs)[i]? = some none
  | [], h => by simp at h
  | v :: vs, h => by
    unfold L2.wipe
    by_cases e : v = i
    · subst e
      rw [List.getElem?_set_self (by rw [L2.wipe_length]; exact hi)]
    · rw [List.getElem?_set_ne e]
      exact wipe_in hi (by simpa [Ne.symm e] using h)
theorem wipe_set {σ : L2.St} {i : Nat} {o : Option V} {vs : List Nat} (h : i ∈ vs) : L2.wipe (σ.set i o) vs = L2.wipe σ vs := by
  apply List.ext_getElem?
  intro j
  by_cases hj : j < σ.length
  · by_cases hv : j ∈ vs
    · rw [wipe_in hj hv, wipe_in (by rw [List.length_set]; exact hj) hv]
    · rw [L2.wipe_out hv, L2.wipe_out hv, List.getElem?_set_ne (fun e => hv (by rw [← e]; exact h))]
  · rw [List.getElem?_eq_none (by rw [L2.wipe_length, List.length_set]; omega), List.getElem?_eq_none (by rw [L2.wipe_length]; omega)]
def lowV (K : Frag) (vs : List Nat) (t : TG') : TG := fun v σ H Q => ∃ u z M q, Rep K H u v ∧ RS K H σ z ∧ RM K H M ∧ t u z M q ∧ PostS K H M q (fun σ' H' => L2.wipe σ' vs = L2.wipe σ vs → Q σ' H')
def lowVs (K : Frag) (ws : List Nat) (t : TGs') : TGs := fun vs σ H Q => ∃ us z M q, RepL K H us vs ∧ RS K H σ z ∧ RM K H M ∧ t us z M q ∧ PostS K H M q (fun σ' H' => L2.wipe σ' ws = L2.wipe σ ws → Q σ' H')
def QV (X : Cx) (vs : List Nat) (e : Expr) (t : TG') : Prop := PG X e (lowV X.K vs t)
def QVs (X : Cx) (vs : List Nat) (es : List Expr) (t : TGs') : Prop := PGs X es (lowVs X.K vs t)
section
variable {X : Cx} {pos : Pos} {vs : List Nat}
theorem qv_name {i : Nat} {x : Str} (hN : X.N.Nodup) (hi : X.N[i]? = some x := by rfl) (hv : i ∈ vs := by decide) (hx : Loc X.env.scope x := by first | exact Or.inl rfl | exact Or.inr rfl)
    (hf : X.fn x = true ∨ X.env.scope.names.lookup x = some .local := by first | exact .inl rfl | exact .inr rfl | assumption) : QV X vs (.Name x pos) (gN i) := imG (pg_name hN hi hx hf) fun v σ H Q ⟨u, z, M, q, r, rs, m, h, P⟩ =>
  P _ M h _ H (rs.set r) m (.refl H M) (wipe_set hv)
theorem qvs_nil : QVs X vs [] gsNil := imGs pgs_nil fun v σ H Q ⟨us, z, M, q, r, rs, m, h, P⟩ => by
  cases us with
  | nil => simp only [RepL] at r; exact ⟨r, P z M h σ H rs m (.refl H M) rfl⟩
  | cons _ _ => exact (show False from h).elim
theorem qvs_cons {e : Expr} {es : List Expr} {t : TG'} {r : TGs'} (h1 : QV X vs e t) (h2 : QVs X vs es r) (hs : (assignEach (e :: es) X.env).map (·.2) = assign e X.env :: (assignEach es X.env).map (·.2) := by rfl) : QVs X vs (e :: es) (gsCons t r) :=
  imGs (pgs_cons h1 h2 hs) fun v σ H Q ⟨us, z, M, q, rr, rs, m, h, P⟩ => by
    cases us with
    | nil => exact (show False from h).elim
    | cons u us =>
      simp only [RepL] at rr
      obtain ⟨x, xs, rfl, r1, r2⟩ := rr
      exact ⟨x, xs, rfl, u, z, M, _, r1, rs, m, h, fun z1 M1 q1 σ1 H1 rs1 m1 k1 e1 => ⟨us, z1, M1, q, r2.keep k1.tk, rs1, m1, q1, fun z2 M2 q2 σ2 H2 rs2 m2 k2 e2 => P z2 M2 q2 σ2 H2 rs2 m2 (k1.trans k2) (e2.trans e1)⟩⟩
theorem qv_tup {es : List Expr} {k : Nat} {t : TGs'} {n : Nat} (hc : X.calm = true) (h : QVs X vs es t) (hn : (assignEach es X.env).length = n := by rfl) (hst : (assignEach es X.env).findIdx? (·.1) = none := by rfl) : QV X vs (.Tuple es k pos) (gTuple n t) :=
  imG (PG.or (pg_tup hc h hn hst) (pg_unl hc h hn hst)) fun v σ H Q ⟨u, z, M, q, r, rs, m, w, P⟩ => by
    have w' : (match seqT u with | some xs => xs.length = n ∧ t xs z M q | none => ∃ xs, seqL M u = some xs ∧ xs.length = n ∧ t xs z M q) := w.h
    cases e : seqT u with
    | some xs =>
      rw [e] at w'
      obtain ⟨a, vs, ev, s, r'⟩ := seqT_of e r
      exact .inl ⟨a, vs, ev, s, by rw [← r'.len]; exact w'.1, xs, z, M, q, r', rs, m, w'.2, P⟩
    | none =>
      rw [e] at w'
      obtain ⟨xs, e1, l, w1⟩ := w'
      obtain ⟨a, vs, ev, s, r'⟩ := seqL_of m e1 r
      exact .inr ⟨a, vs, ev, s, by rw [← r'.len]; exact l, xs, z, M, q, r', rs, m, w1, P⟩
end
def tYes' : TT' := fun _ M q => q true M
/-- D: the list that grows; W by the turn, what is told so far, and what stands (D with it) -/
structure lcQ (g : TG') (tt : TT') (te : TE') (vs : List Nat) (z : SL) (q : QK) (xs : List U) (side : Mp → Prop) (M1 : Mp) : Prop where
  h : ∀ D, M1 D = none → ∃ W : Nat → List U → Mp → Prop, W 0 [] (put M1 D (.lst [])) ∧ (∀ i acc M, W i acc M → side M) ∧
  (∀ (i : Nat) x acc M, xs[i]? = some x → W i acc M → g x (wipeS z vs) M fun z2 M2 => tt z2 M2 fun b M3 => ifB b (te z2 M3 fun y M4 => M4 D = some (.lst acc) ∧ acc.length < sizeLine ∧ W (i + 1) (acc ++ [y]) (put M4 D (.lst (acc ++ [y])))) (W (i + 1) acc M3)) ∧
  ∀ acc M, W xs.length acc M → (M D = some (.lst acc) ∧ q (.lst acc) (drp M D)) ∨ q (.ref D) M
def eLc (it : TI') (g : TG') (tt : TT') (te : TE') (vs : List Nat) : TE' := fun z M q => it z M fun xs side M1 => lcQ g tt te vs z q xs side M1
/-- a test of a comprehension -/
def QTs (X : Cx) (ifs : List Expr) (t : TT') : Prop := PTs X ifs (lowT X.K t)
theorem qts_nil {X : Cx} : QTs X [] tYes' := ⟨fun pins s σ H Q I ⟨z, M, q, rs, m, h, P⟩ => pts_nil.run pins s σ H Q I (P true M h H m (.refl H M))⟩
theorem qts_one {X : Cx} {c : Expr} {t : TT'} (h : QT X c t) : QTs X [c] t := pts_one h
/-- what is written at a list's place -/
theorem RM.wrL {K : Frag} {H : Hp} {M : Mp} {a : Addr} {vs ws : List V} {xs : List U} (m : RM K H M) (e : H a = some (.lst vs)) (r : RepL K H xs ws) : RM K (upd H a (.lst ws)) (put M a (.lst xs)) ∧ TK H (upd H a (.lst ws)) := by
  have tk : TK H (upd H a (.lst ws)) := .wr e (fun _ z => nomatch z) fun _ _ z => nomatch z
  refine ⟨fun b o eb => ?_, tk⟩
  by_cases z : b = a
  · rw [z, put_same] at eb
    cases eb
    rw [z]
    exact ⟨ws, upd_same, r.keep tk⟩
  · rw [put_ne z] at eb
    exact (m b o eb).keep tk (fun u hu => by rw [upd_ne z]; exact hu) fun c hc => by rw [upd_ne (fun z => by rw [z, e] at hc; cases hc)]; exact hc
/-- a list is locked: it is its items from now on -/
theorem RM.lk {K : Frag} {H : Hp} {M : Mp} {a : Addr} {vs : List V} {xs : List U} {o : Obj} (m : RM K H M) (e : H a = some (.lst vs)) (r : RepL K H xs vs) :
    RM K (upd H a (.frz o (.lst vs))) (L3.drp M a) ∧ TK H (upd H a (.frz o (.lst vs))) ∧ Rep K (upd H a (.frz o (.lst vs))) (.lst xs) (.ref a) := by
  have tk : TK H (upd H a (.frz o (.lst vs))) := .wr e (fun _ z => nomatch z) fun _ _ z => nomatch z
  refine ⟨fun b x eb => ?_, tk, ?_⟩
  · have nb : b ≠ a := fun z => by rw [z, drp_same] at eb; cases eb
    rw [drp_ne nb] at eb
    exact (m b x eb).keep tk (fun y hy => by rw [upd_ne nb]; exact hy) fun c hc => by rw [upd_ne (fun z => by rw [z, e] at hc; cases hc)]; exact hc
  · simp only [Rep]
    exact ⟨a, vs, rfl, .inl ⟨o, upd_same⟩, r.keep tk⟩
theorem low_lc {K : Frag} {it : TI'} {g : TG'} {tt : TT'} {te : TE'} {vs : List Nat} {σ : L2.St} {H : Hp} {Q : VK} (h : lowE K (eLc it g tt te vs) σ H Q) : tLc (lowI K it) (lowV K vs g) (lowT K tt) (lowE K te) vs σ H (fz Q) := by
  obtain ⟨z, M, q, rs, m, h, P⟩ := h
  refine ⟨z, M, _, rs, m, h, ?_⟩
  intro xs side M1 h1 J H1 IJ m1 k1 D hD
  obtain ⟨W, w0, ws, wt, wd⟩ := h1.h D (m1.fresh hD)
  have kD : TK H1 (upd H1 D (.lst [])) := .new hD
  -- i, what stands; D's list is known at each turn
  refine ⟨fun i n H' => n = xs.length - i ∧ i ≤ xs.length ∧ ∃ acc M', RM K H' M' ∧ W i acc M' ∧ TK H1 H', ⟨xs.length, by simp, Nat.zero_le _, [], _, m1.new (mo := .lst []) hD ⟨[], upd_same, .nil⟩, w0, kD⟩, ?_⟩
  rintro i n H2 ⟨rfl, hi, acc, M2, m2, w2, k2⟩
  obtain ⟨j1, j2⟩ := IJ i H2 M2 k2 m2 (ws i acc M2 w2)
  by_cases hl : i < xs.length
  · obtain ⟨g1, g2⟩ := j1 xs[i] (by simp [hl])
    refine .inr ⟨g1, fun H' => ∃ acc M', RM K H' M' ∧ W (i + 1) acc M' ∧ TK H1 H', fun H' ⟨acc, M', q1, q2, q3⟩ => ⟨xs.length - (i + 1), by omega, rfl, hl, acc, M', q1, q2, q3⟩, fun v H3 y => ?_⟩
    obtain ⟨r3, m3, k3⟩ := g2 v H3 y
    have k13 : TK H1 H3 := k2.trans k3
    refine ⟨xs[i], wipeS z vs, M2, _, r3, ((rs.keep k1).keep k13).wipe vs, m3, wt i xs[i] acc M2 (by simp [hl]) w2, fun z4 M4 h4 σ4 H4 rs4 m4 k4 e4 => ⟨?_, ?_⟩⟩
    · rw [e4]
      -- the block's names are forgotten: twice is once
      have ww : ∀ (σ : L2.St) (vs : List Nat), L2.wipe (L2.wipe σ vs) vs = L2.wipe σ vs := by
        intro σ vs
        apply List.ext_getElem?
        intro j
        by_cases hj : j < σ.length
        · by_cases hv : j ∈ vs
          · rw [wipe_in hj hv, wipe_in (by rw [L2.wipe_length]; exact hj) hv]
          · rw [L2.wipe_out hv]
        · rw [List.getElem?_eq_none (by rw [L2.wipe_length, L2.wipe_length]; omega), List.getElem?_eq_none (by rw [L2.wipe_length]; omega)]
      exact ww σ vs
    · have k14 : TK H1 H4 := k13.trans k4.tk
      refine ⟨z4, M4, _, rs4, m4, h4, fun b M5 h5 H5 m5 k5 => ?_⟩
      have k15 : TK H1 H5 := k14.trans k5.tk
      cases b with
      | false => exact iteF ⟨acc, M5, m5, h5, k15⟩
      | true =>
        refine iteT ⟨z4, M5, _, rs4.keep k5.tk, m5, h5, fun u M6 h6 vu H6 ru m6 k6 => ?_⟩
        obtain ⟨eD, hz, w6⟩ := h6
        obtain ⟨vacc, e6, r6⟩ := m6 D _ eD
        obtain ⟨m7, k7⟩ := m6.wrL (xs := acc ++ [u]) e6 (r6.app (.cons ru .nil))
        exact ⟨vacc, e6, by rw [← r6.len]; exact hz, acc ++ [u], _, m7, w6, (k15.trans k6.tk).trans k7⟩
  · have e : i = xs.length := by omega
    refine .inl ⟨j2 (by omega), ?_⟩
    rcases wd acc M2 (by rw [← e]; exact w2) with ⟨eD, hq⟩ | hq
    · obtain ⟨vacc, e6, r6⟩ := m2 D _ eD
      refine .lock e6 fun o => .here ?_
      obtain ⟨m7, k7, r7⟩ := m2.lk (o := o) e6 r6
      exact P _ _ hq _ _ r7 m7 ⟨(k1.trans k2).trans k7⟩
    · exact .here (P _ _ hq _ _ .r m2 ⟨k1.trans k2⟩)
section
variable {X : Cx} {elt tg iter : Expr} {ifs : List Expr} {scope : Scope} {own : List (Str × Nat)} {pos spos : Pos} {it : TI'} {g : TG'} {tt : TT'} {te : TE'}
theorem qe_lc (hc : X.calm = true) (hN : X.N.Nodup) (hi : QI X tg iter it) (ok : BlkOk X.N X.env.scope scope own)
    (hg : ∀ (s : Shared) (H : Hp) (C : Addr) (cl : List (Str × Addr)) (fp : List Addr), QV (X.blk s H scope (compEnvC scope cl C X.env) fp) (own.map (·.2)) tg g) (ht : ∀ (s : Shared) (H : Hp) (C : Addr) (cl : List (Str × Addr)) (fp : List Addr), QTs (X.blk s H scope (compEnvC scope cl C X.env) fp) ifs tt)
    (he : ∀ (s : Shared) (H : Hp) (C : Addr) (cl : List (Str × Addr)) (fp : List Addr), QE (X.blk s H scope (compEnvC scope cl C X.env) fp) elt te) (hs : ∀ x, foldedSetIterable iter X.env x = pure x := by intro _; rfl) :
    QE X (.ListComp elt [⟨tg, iter, ifs, 0⟩] scope pos) (eLc it g tt te (own.map (·.2))) := imE (PE.fz (pe_lc (wi := lowI X.K it) (g := lowV X.K (List.map (fun p : Str × Nat => p.2) own) g) (tt := lowT X.K tt) (te := lowE X.K te) hc hN hi ok hg ht he hs)) fun _ _ _ h => low_lc h
end
end L3

set_option Elab.async false
set_option linter.all false
set_option maxRecDepth 100000
set_option maxHeartbeats 4000000
namespace L3
open PySem PySem.Spec L2
open PyProof.Rows hiding St
/-! ### data: a tree whose lists are known -/
mutual
def dT : U → Option PyData
  | .non => some .none
  | .bl b => some (.bool b)
  | .int i => some (.int i)
  | .str x => some (.str x)
  | .tup xs => (dTs xs).map .tuple
  | .kt xs => (dTs xs).map .tuple
  | .lst xs => (dTs xs).map .list
  | .ty _ => none
  | .ref _ => none
def dTs : List U → Option (List PyData)
  | [] => some []
  | x :: xs => match dT x, dTs xs with
    | some d, some ds => some (d :: ds)
    | _, _ => none
end
/-- .. or a list that may change, of such -/
def dM (M : Mp) : U → Option PyData
  | .ref a => match M a with
    | some (.lst xs) => (dTs xs).map .list
    | _ => none
  | u => dT u
mutual
theorem dT_ok {K : Frag} {H : Hp} : ∀ {u : U} {v : V} {d : PyData}, dT u = some d → Rep K H u v → Dp K H v d
  | .non, _, _, h, r => by cases h; rw [rnon r]; exact .non
  | .bl b, _, _, h, r => by cases h; rw [rbl r]; exact .bl b
  | .int i, _, _, h, r => by cases h; rw [rint r]; exact .int i
  | .str x, _, _, h, r => by cases h; rw [rstr r]; exact .str x
  | .tup xs, _, d, h, r => by
    unfold dT at h
    simp only [Rep] at r
    obtain ⟨a, vs, rfl, s, r'⟩ := r
    cases e : dTs xs with
    | none => rw [e] at h; cases h
    | some ds => rw [e] at h; cases h; exact .tup s (dTs_ok e r')
  | .kt xs, _, d, h, r => by
    unfold dT at h
    simp only [Rep] at r
    obtain ⟨a, vs, rfl, s, r'⟩ := r
    cases e : dTs xs with
    | none => rw [e] at h; cases h
    | some ds => rw [e] at h; cases h; exact .tup (.of s) (dTs_ok e r')
  | .lst xs, _, d, h, r => by
    unfold dT at h
    simp only [Rep] at r
    obtain ⟨a, vs, rfl, s, r'⟩ := r
    cases e : dTs xs with
    | none => rw [e] at h; cases h
    | some ds => rw [e] at h; cases h; exact .lst s.seq (dTs_ok e r')
  | .ty _, _, _, h, _ => by cases h
  | .ref _, _, _, h, _ => by cases h
theorem dTs_ok {K : Frag} {H : Hp} : ∀ {us : List U} {vs : List V} {ds : List PyData}, dTs us = some ds → RepL K H us vs → DpAll K H vs ds
  | [], _, _, h, r => by
    unfold dTs at h
    cases h
    simp only [RepL] at r
    subst r
    exact .nil
  | x :: xs, _, ds, h, r => by
    unfold dTs at h
    simp only [RepL] at r
    obtain ⟨v, vr, rfl, r1, r2⟩ := r
    cases e1 : dT x with
    | none => rw [e1] at h; cases h
    | some d =>
      cases e2 : dTs xs with
      | none => rw [e1, e2] at h; cases h
      | some dr => rw [e1, e2] at h; cases h; exact .cons (dT_ok e1 r1) (dTs_ok e2 r2)
end
theorem dM_ok {K : Frag} {H : Hp} {M : Mp} {u : U} {v : V} {d : PyData} (m : RM K H M) (h : dM M u = some d) (r : Rep K H u v) : Dp K H v d := by
  cases u with
  | ref a =>
    have h' : (match M a with | some (.lst xs) => (dTs xs).map PyData.list | _ => none) = some d := h
    cases e : M a with
    | none => rw [e] at h'; cases h'
    | some o =>
      rw [e] at h'
      cases o with
      | lst xs =>
        cases e2 : dTs xs with
        | none => simp only [e2] at h'; cases h'
        | some ds =>
          simp only [e2] at h'
          cases h'
          obtain ⟨vs, e1, r1⟩ := m a _ e
          rw [rref r]
          exact .lst (.of e1) (dTs_ok e2 r1)
      | _ => cases h'
  | _ => exact dT_ok h r
/-! ### == and != -/
def okD (d : PyData) : Prop := SeqAt.shaped d = true
def rEqG (f : Bool → Bool) : R2' := fun x y M q => match x with
  | .int i => match y with
    | .int j => q (.bl (f (decide (i = j)))) M
    | _ => ∃ d, dM M y = some d ∧ okD d ∧ q (.bl (f (PyData.eqv (.int i) d))) M
  | .str i => match y with
    | .str j => q (.bl (f (decide (i = j)))) M
    | _ => False
  | x => ∃ d e, dM M x = some d ∧ dM M y = some e ∧ okD d ∧ okD e ∧ q (.bl (f (PyData.eqv d e))) M
abbrev rEq : R2' := rEqG id
abbrev rNe : R2' := rEqG not
theorem okI (i : Int) : okD (.int i) := by
  unfold okD SeqAt.shaped
  simp [PyData.canLay0, PyData.depth]
section
variable {X : Cx} {pos : Pos} {a b c : Expr} {ta tb tc : TE'}
theorem low_eqG {f : Bool → Bool} {rS rD : R2} (hS : ∀ x y H Q, scal x y = true → Q (.bl (f (decide (x = y)))) H → rS x y H Q) (hD : ∀ x y d e H Q, Dp X.K H x d → Dp X.K H y e → SeqAt.shaped d = true → SeqAt.shaped e = true → Q (.bl (f (PyData.eqv d e))) H → rD x y H Q) :
    ∀ u w x y H M q Q, Rep X.K H u x → Rep X.K H w y → RM X.K H M → rEqG f u w M q → Post X.K H M q Q → rS x y H Q ∨ rD x y H Q := by
  intro u w x y H M q Q ru rw' m h P
  have gen : (∃ d e, dM M u = some d ∧ dM M w = some e ∧ okD d ∧ okD e ∧ q (.bl (f (PyData.eqv d e))) M) → rD x y H Q := fun ⟨d, e, e1, e2, o1, o2, hq⟩ =>
    hD x y d e H Q (dM_ok m e1 ru) (dM_ok m e2 rw') o1 o2 (P.val hq m .b)
  cases u with
  | int i =>
    cases w with
    | int j =>
      rw [rint ru, rint rw']
      refine .inl (hS _ _ H Q rfl ?_)
      have e : decide (V.int i = V.int j) = decide (i = j) := by simp
      rw [e]
      exact P.val h m .b
    | _ =>
      obtain ⟨d, e1, o1, hq⟩ := h
      exact .inr (hD x y _ d H Q (dM_ok (u := .int i) m rfl ru) (dM_ok m e1 rw') (okI i) o1 (P.val hq m .b))
  | str i =>
    cases w with
    | str j =>
      rw [rstr ru, rstr rw']
      refine .inl (hS _ _ H Q rfl ?_)
      have e : decide (V.str i = V.str j) = decide (i = j) := by simp
      rw [e]
      exact P.val h m .b
    | _ => exact h.elim
  | _ => exact .inr (gen h)
theorem o_eq (hu : X.A.units + 64 < cLine) : OpR X (compareOp .Eq) (lowR X.K rEq) := opU (op_eq.or (op_eqD hu)) (low_eqG (f := id) (fun x y H Q h q => ⟨h, q⟩) fun x y d e H Q h1 h2 o1 o2 q => ⟨d, e, h1, h2, o1, o2, q⟩)
theorem o_ne (hu : X.A.units + 64 < cLine) : OpR X (compareOp .NotEq) (lowR X.K rNe) := opU (op_ne.or (op_neD hu)) (low_eqG (f := not) (fun x y H Q h q => ⟨h, q⟩) fun x y d e H Q h1 h2 o1 o2 q => ⟨d, e, h1, h2, o1, o2, q⟩)
/-! ### < <= > >= of ints -/
abbrev rLt : R2' := rInt0 fun i j => .bl (decide (i < j))
abbrev rLe : R2' := rInt0 fun i j => .bl (decide (i ≤ j))
abbrev rGt : R2' := rInt0 fun i j => .bl (decide (j < i))
abbrev rGe : R2' := rInt0 fun i j => .bl (decide (j ≤ i))
theorem o_lt : OpR X (compareOp .Lt) (lowR X.K rLt) := opI0 op_lt fun _ _ _ => .b
theorem o_le : OpR X (compareOp .LtE) (lowR X.K rLe) := opI0 op_le fun _ _ _ => .b
theorem o_gt : OpR X (compareOp .Gt) (lowR X.K rGt) := opI0 op_gt fun _ _ _ => .b
theorem o_ge : OpR X (compareOp .GtE) (lowR X.K rGe) := opI0 op_ge fun _ _ _ => .b
/-! ### is None -/
def isN : U → Bool
  | .non => true
  | _ => false
theorem isN_ok {K : Frag} {H : Hp} {u : U} {v : V} (r : Rep K H u v) : decide (v = .non) = isN u := by
  cases u with
  | non => rw [rnon r]; rfl
  | bl b => rw [rbl r]; rfl
  | int i => rw [rint r]; rfl
  | str i => rw [rstr r]; rfl
  | ty i => rw [rty r]; rfl
  | ref i => rw [rref r]; rfl
  | tup xs => simp only [Rep] at r; obtain ⟨a, vs, rfl, _⟩ := r; rfl
  | kt xs => simp only [Rep] at r; obtain ⟨a, vs, rfl, _⟩ := r; rfl
  | lst xs => simp only [Rep] at r; obtain ⟨a, vs, rfl, _⟩ := r; rfl
def rIsN (f : Bool → Bool) : R2' := fun x y M q => match y with
  | .non => q (.bl (f (isN x))) M
  | _ => False
theorem o_isN : OpR X (compareOp .Is) (lowR X.K (rIsN id)) := opU op_isN fun u w x y H M q Q ru rw' m h P => by
  cases w with
  | non => exact ⟨rnon rw', by rw [isN_ok ru]; exact P.val h m .b⟩
  | _ => exact (show False from h).elim
theorem o_notN : OpR X (compareOp .IsNot) (lowR X.K (rIsN not)) := opU op_notN fun u w x y H M q Q ru rw' m h P => by
  cases w with
  | non => exact ⟨rnon rw', by rw [isN_ok ru]; exact P.val h m .b⟩
  | _ => exact (show False from h).elim
/-! ### chains -/
def eChain (r r' : R2') (ta tb tc : TE') : TE' := fun z M q => ta z M fun x M1 => tb z M1 fun y M2 => r x y M2 fun v M3 => match v with
  | .bl k => ifB k (tc z M3 fun w M4 => r' y w M4 q) (q (.bl false) M3)
  | _ => False
theorem low_chain {K : Frag} {r r' : R2'} {ta tb tc : TE'} {σ : L2.St} {H : Hp} {Q : VK} (h : lowE K (eChain r r' ta tb tc) σ H Q) : tChain (lowR K r) (lowR K r') (lowE K ta) (lowE K tb) (lowE K tc) σ H Q := by
  obtain ⟨z, M, q, rs, m, h, P⟩ := h
  refine ⟨z, M, _, rs, m, h, fun x M1 h1 vx H1 rx m1 k1 => ⟨z, M1, _, rs.keep k1.tk, m1, h1, fun y M2 h2 vy H2 ry m2 k2 => ?_⟩⟩
  refine ⟨x, y, M2, _, rx.keep k2.tk, ry, m2, h2, fun u M3 h3 v H3 rv m3 k3 => ?_⟩
  have k13 : SK H M H3 M3 := (k1.trans k2).trans k3
  cases u with
  | bl k =>
    refine ⟨k, rbl rv, ?_⟩
    cases k with
    | true => exact iteT ⟨z, M3, _, rs.keep k13.tk, m3, h3, fun w M4 h4 vw H4 rw' m4 k4 => ⟨y, w, M4, q, (ry.keep k3.tk).keep k4.tk, rw', m4, h4, P.step (k13.trans k4)⟩⟩
    | false => exact iteF ((P.step k13).val h3 m3 .b)
  | _ => exact (show False from h3).elim
theorem qe_chain {op op' : CmpOp} {r r' : R2'} (ho : OpR X (compareOp op) (lowR X.K r)) (ho' : OpR X (compareOp op') (lowR X.K r')) (ha : QE X a ta) (hb : QE X b tb) (hc : QE X c tc) (hm : lastMarks [op, op'] [b, c] = false := by with_unfolding_all rfl) :
    QE X (.Compare a [op, op'] [b, c] pos) (eChain r r' ta tb tc) := imE (pe_chain ho ho' ha hb hc hm) fun _ _ _ h => low_chain h
theorem qt_chain {op op' : CmpOp} {r r' : R2'} (ho : OpR X (compareOp op) (lowR X.K r)) (ho' : OpR X (compareOp op') (lowR X.K r')) (ha : QE X a ta) (hb : QE X b tb) (hc : QE X c tc) (hm : lastMarks [op, op'] [b, c] = false := by with_unfolding_all rfl) :
    QT X (.Compare a [op, op'] [b, c] pos) (tB' (eChain r r' ta tb tc)) := imT (pt_chain ho ho' ha hb hc hm) fun σ H Q h => tTest_mono (fun _ h => low_chain h) (low_test h)
/-! ### and, or, not -/
variable {rest : List Expr} {t u : TT'}
def tAnd' (t u : TT') : TT' := fun z M q => t z M fun k M1 => ifB k (u z M1 q) (q false M1)
def tOr' (t u : TT') : TT' := fun z M q => t z M fun k M1 => ifB k (q true M1) (u z M1 q)
def tNot' (t : TT') : TT' := fun z M q => t z M fun k M1 => q (!k) M1
theorem qw_and1 (ha : QT X a t) : QW X (.BoolOp .And [a] pos) t := pw_and1 ha
theorem qw_or1 (ha : QT X a t) : QW X (.BoolOp .Or [a] pos) t := pw_or1 ha
theorem qw_and (ha : QT X a t) (hb : QW X (.BoolOp .And (b :: rest) pos) u) : QW X (.BoolOp .And (a :: b :: rest) pos) (tAnd' t u) := imW (pw_and ha hb) fun σ H Q ⟨z, M, q, rs, m, h, P⟩ =>
  ⟨z, M, _, rs, m, h, fun k M1 h1 H1 m1 k1 => by
    cases k with
    | true => exact iteT ⟨z, M1, q, rs.keep k1.tk, m1, h1, P.step k1⟩
    | false => exact iteF (P false M1 h1 H1 m1 k1)⟩
theorem qw_or (ha : QT X a t) (hb : QW X (.BoolOp .Or (b :: rest) pos) u) : QW X (.BoolOp .Or (a :: b :: rest) pos) (tOr' t u) := imW (pw_or ha hb) fun σ H Q ⟨z, M, q, rs, m, h, P⟩ =>
  ⟨z, M, _, rs, m, h, fun k M1 h1 H1 m1 k1 => by
    cases k with
    | true => exact iteT (P true M1 h1 H1 m1 k1)
    | false => exact iteF ⟨z, M1, q, rs.keep k1.tk, m1, h1, P.step k1⟩⟩
theorem QW.pt (h : QW X a t) : QT X a t := PW.pt h
theorem qt_not (ha : QT X a t) : QT X (.UnaryOp .Not a pos) (tNot' t) := imT (pt_not ha) fun σ H Q ⟨z, M, q, rs, m, h, P⟩ =>
  ⟨z, M, _, rs, m, h, fun k M1 h1 H1 m1 k1 => P (!k) M1 h1 H1 m1 k1⟩
/-- .. as values, of bools -/
def asBl (u : U) (k : Bool → Prop) : Prop := match u with
  | .bl b => k b
  | _ => False
def eAnd (ta tb : TE') : TE' := fun z M q => ta z M fun x M1 => asBl x fun k => ifB k (tb z M1 q) (q (.bl false) M1)
def eOr (ta tb : TE') : TE' := fun z M q => ta z M fun x M1 => asBl x fun k => ifB k (q (.bl true) M1) (tb z M1 q)
def eNot (ta : TE') : TE' := fun z M q => ta z M fun x M1 => asBl x fun k => q (.bl (!k)) M1
theorem qe_one {op} (h : QE X a ta) : QE X (.BoolOp op [a] pos) ta := pe_one h
theorem qe_and (ha : QE X a ta) (hb : QE X (.BoolOp .And (b :: rest) pos) tb) : QE X (.BoolOp .And (a :: b :: rest) pos) (eAnd ta tb) := imE (pe_and ha hb) fun σ H Q ⟨z, M, q, rs, m, h, P⟩ =>
  ⟨z, M, _, rs, m, h, fun x M1 h1 v H1 r m1 k1 => by
    cases x with
    | bl k =>
      refine ⟨k, rbl r, ?_⟩
      cases k with
      | true => exact iteT ⟨z, M1, q, rs.keep k1.tk, m1, h1, P.step k1⟩
      | false => exact iteF ((P.step k1).val h1 m1 .b)
    | _ => exact (show False from h1).elim⟩
theorem qe_or (ha : QE X a ta) (hb : QE X (.BoolOp .Or (b :: rest) pos) tb) : QE X (.BoolOp .Or (a :: b :: rest) pos) (eOr ta tb) := imE (pe_or ha hb) fun σ H Q ⟨z, M, q, rs, m, h, P⟩ =>
  ⟨z, M, _, rs, m, h, fun x M1 h1 v H1 r m1 k1 => by
    cases x with
    | bl k =>
      refine ⟨k, rbl r, ?_⟩
      cases k with
      | true => exact iteT ((P.step k1).val h1 m1 .b)
      | false => exact iteF ⟨z, M1, q, rs.keep k1.tk, m1, h1, P.step k1⟩
    | _ => exact (show False from h1).elim⟩
theorem qe_not (ha : QE X a ta) : QE X (.UnaryOp .Not a pos) (eNot ta) := imE (pe_not ha) fun σ H Q ⟨z, M, q, rs, m, h, P⟩ =>
  ⟨z, M, _, rs, m, h, fun x M1 h1 v H1 r m1 k1 => by
    cases x with
    | bl k => exact ⟨k, rbl r, (P.step k1).val h1 m1 .b⟩
    | _ => exact (show False from h1).elim⟩
def eIf (t : TT') (ta tb : TE') : TE' := fun z M q => t z M fun k M1 => ifB k (ta z M1 q) (tb z M1 q)
theorem qe_ifExp (hc : QT X c t) (ha : QE X a ta) (hb : QE X b tb) : QE X (.IfExp c a b pos) (eIf t ta tb) := imE (pe_ifExp hc ha hb) fun σ H Q ⟨z, M, q, rs, m, h, P⟩ =>
  ⟨z, M, _, rs, m, h, fun k M1 h1 H1 m1 k1 => by
    cases k with
    | true => exact iteT ⟨z, M1, q, rs.keep k1.tk, m1, h1, P.step k1⟩
    | false => exact iteF ⟨z, M1, q, rs.keep k1.tk, m1, h1, P.step k1⟩⟩
/-- a value that is a bool, as a test -/
theorem qt_val (ha : QE X a ta) (he : ∀ whole, isTrue a X.env whole = (do let v ← whole; standAt a.pos; holding [v] (truthy v)) := by intro _; rfl) : QT X a (tB' ta) := imT (pt_val ha he) fun σ H Q h => low_test h
/-! ### - -/
def eNeg (ta : TE') : TE' := fun z M q => ta z M fun x M1 => asI x fun i => q (.int (-i)) M1
theorem qe_neg (ha : QE X a ta) : QE X (.UnaryOp .USub a pos) (eNeg ta) := imE (pe_un un_neg ha) fun σ H Q ⟨z, M, q, rs, m, h, P⟩ =>
  ⟨z, M, _, rs, m, h, fun x M1 h1 v H1 r m1 k1 => by
    obtain ⟨i, rfl, h2⟩ := asI_inv h1
    exact ⟨i, rint r, (P.step k1).val h2 m1 .i⟩⟩
/-! ### x += e -/
def sAug (i : Nat) (te : TE') (r : R2') : TS' := fun d z M => match getS z i with
  | some x => te z M fun y M1 => r x y M1 fun w M2 => d.nx (setS z i (some w)) M2
  | none => False
theorem qs_aug {i : Nat} {x : Str} {e : Expr} {te : TE'} {op : Operator} {r : R2'} {pos' : Pos} (hN : X.N.Nodup) (ho : OpR X (inplaceOp op) (lowR X.K r)) (he : QE X e te) (hi : X.N[i]? = some x := by rfl) (hx : Loc X.env.scope x := by first | exact Or.inl rfl | exact Or.inr rfl)
    (hf : X.fn x = true ∨ X.env.scope.names.lookup x = some .local := by first | exact .inl rfl | exact .inr rfl | assumption) : QS X (.AugAssign (.Name x pos') op e pos) (sAug i te r) := imS (ps_aug hN hi hx he ho hf) fun D σ H ⟨z, M, d, rs, m, h, P⟩ => by
  have h' : (match getS z i with | some x => te z M fun y M1 => r x y M1 fun w M2 => d.nx (setS z i (some w)) M2 | none => False) := h
  cases e : getS z i with
  | none => rw [e] at h'; exact h'.elim
  | some u =>
    rw [e] at h'
    obtain ⟨v, e1, ru⟩ := rs.at_ i u e
    refine ⟨v, e1, z, M, _, rs, m, h', fun y M1 h1 vy H1 ry m1 k1 => ⟨u, y, M1, _, ru.keep k1.tk, ry, m1, h1, fun w M2 h2 vw H2 rw' m2 k2 => ?_⟩⟩
    exact P.nx _ M2 h2 _ H2 (((rs.keep k1.tk).keep k2.tk).set rw') m2 (k1.trans k2)
theorem io_add : OpR X (inplaceOp .Add) (lowR X.K (rInt0 fun i j => .int (i + j))) := opI0 iop_add fun _ _ _ => .i
theorem io_sub : OpR X (inplaceOp .Sub) (lowR X.K rSub) := opI0 iop_sub fun _ _ _ => .i
end
end L3

set_option Elab.async false
set_option linter.all false
set_option maxRecDepth 100000
set_option maxHeartbeats 4000000
namespace L3
open PySem PySem.Spec L2
open PyProof.Rows hiding St
/-! ### dicts: what they hold -/
def dlook (kvs : List (U × U)) (k : U) : Option U := (kvs.find? fun p => decide (p.1 = k)).map (·.2)
def dput (kvs : List (U × U)) (k v : U) : List (U × U) := if (kvs.any fun p => decide (p.1 = k)) then kvs.map fun p => if p.1 = k then (p.1, v) else p else kvs ++ [(k, v)]
theorem dlook_nil (k : U) : dlook [] k = none := rfl
theorem dlook_cons (p : U × U) (kvs : List (U × U)) (k : U) : dlook (p :: kvs) k = if p.1 = k then some p.2 else dlook kvs k := by
  unfold dlook
  rw [List.find?_cons]
  by_cases h : p.1 = k
  · simp [h]
  · simp [h]
theorem keyU_inj {a b : Key} (h : keyU a = keyU b) : a = b := by
  cases a <;> cases b <;> simp [keyU] at h <;> simp [h]
theorem keyUs_inj : ∀ {a b : List Key}, a.map keyU = b.map keyU → a = b
  | [], [], _ => rfl
  | [], _ :: _, h => by simp at h
  | _ :: _, [], h => by simp at h
  | x :: xs, y :: ys, h => by
    rw [List.map_cons, List.map_cons] at h
    injection h with h1 h2
    rw [keyU_inj h1, keyUs_inj h2]
theorem keysU_inj {a b : List Key} (h : keysU a = keysU b) : a = b := by
  unfold keysU at h
  injection h with h
  exact keyUs_inj h
section
variable {K : Frag} {H : Hp} {κ : Type} [DecidableEq κ] {ku : κ → U}
theorem RepP.nil : RepP K H ku [] ([] : List (κ × V)) := ⟨rfl, by simpa using RepL.nil⟩
theorem RepP.cons {p : U × U} {kvs : List (U × U)} {e : κ × V} {l : List (κ × V)} (h1 : p.1 = ku e.1) (h2 : Rep K H p.2 e.2) (h : RepP K H ku kvs l) : RepP K H ku (p :: kvs) (e :: l) :=
  ⟨by rw [List.map_cons, List.map_cons, h1, h.1], by rw [List.map_cons, List.map_cons]; exact .cons h2 h.2⟩
theorem RepP.split {p : U × U} {kvs : List (U × U)} {l : List (κ × V)} (h : RepP K H ku (p :: kvs) l) : ∃ e r, l = e :: r ∧ p.1 = ku e.1 ∧ Rep K H p.2 e.2 ∧ RepP K H ku kvs r := by
  obtain ⟨h1, h2⟩ := h
  cases l with
  | nil => simp at h1
  | cons e r =>
    rw [List.map_cons, List.map_cons] at h1
    injection h1 with a b
    simp only [List.map_cons, RepL] at h2
    obtain ⟨v, vr, ev, q1, q2⟩ := h2
    injection ev with e1 e2
    exact ⟨e, r, rfl, a, by rw [e1]; exact q1, b, by rw [e2]; exact q2⟩
theorem RepP.nil_inv {l : List (κ × V)} (h : RepP K H ku [] l) : l = [] := by
  cases l with
  | nil => rfl
  | cons e r => simp [RepP] at h
theorem RepP.len {kvs : List (U × U)} {l : List (κ × V)} (h : RepP K H ku kvs l) : kvs.length = l.length := by
  have := congrArg List.length h.1
  simpa using this
def RepO (K : Frag) (H : Hp) : Option U → Option V → Prop
  | some u, some v => Rep K H u v
  | none, none => True
  | _, _ => False
theorem RepP.look (inj : ∀ a b, ku a = ku b → a = b) (k : κ) : ∀ {kvs : List (U × U)} {l : List (κ × V)}, RepP K H ku kvs l → RepO K H (dlook kvs (ku k)) (valV l k)
  | [], l, h => by rw [h.nil_inv]; exact True.intro
  | p :: kvs, l, h => by
    obtain ⟨e, r, rfl, h1, h2, h3⟩ := h.split
    rw [dlook_cons]
    by_cases hk : e.1 = k
    · rw [valV_pos hk, if_pos (by rw [h1, hk])]
      exact h2
    · rw [valV_neg hk, if_neg (fun z => hk (inj _ _ (h1.symm.trans z)))]
      exact h3.look inj k
theorem RepP.any (inj : ∀ a b, ku a = ku b → a = b) (k : κ) : ∀ {kvs : List (U × U)} {l : List (κ × V)}, RepP K H ku kvs l → (kvs.any fun p => decide (p.1 = ku k)) = l.any fun p => decide (p.1 = k)
  | [], l, h => by rw [h.nil_inv]; rfl
  | p :: kvs, l, h => by
    obtain ⟨e, r, rfl, h1, h2, h3⟩ := h.split
    rw [List.any_cons, List.any_cons, h3.any inj k]
    congr 1
    by_cases hk : e.1 = k
    · rw [decide_eq_true hk, decide_eq_true (by rw [h1, hk])]
    · rw [decide_eq_false hk, decide_eq_false (fun z => hk (inj _ _ (h1.symm.trans z)))]
theorem RepP.repl (inj : ∀ a b, ku a = ku b → a = b) (k : κ) {u : U} {v : V} (r : Rep K H u v) : ∀ {kvs : List (U × U)} {l : List (κ × V)}, RepP K H ku kvs l →
    RepP K H ku (kvs.map fun p => if p.1 = ku k then (p.1, u) else p) (l.map fun p => if p.1 = k then (p.1, v) else p)
  | [], l, h => by rw [h.nil_inv]; exact .nil
  | p :: kvs, l, h => by
    obtain ⟨e, r', rfl, h1, h2, h3⟩ := h.split
    rw [List.map_cons, List.map_cons]
    have t := h3.repl inj k r
    by_cases hk : e.1 = k
    · rw [if_pos hk, if_pos (by rw [h1, hk])]
      exact .cons h1 r t
    · rw [if_neg hk, if_neg (fun z => hk (inj _ _ (h1.symm.trans z)))]
      exact .cons h1 h2 t
theorem RepP.app {kvs : List (U × U)} {l : List (κ × V)} {p : U × U} {e : κ × V} (h : RepP K H ku kvs l) (h1 : p.1 = ku e.1) (h2 : Rep K H p.2 e.2) : RepP K H ku (kvs ++ [p]) (l ++ [e]) :=
  ⟨by rw [List.map_append, List.map_append, h.1]; simp [h1], by rw [List.map_append, List.map_append]; exact h.2.app (.cons h2 .nil)⟩
theorem RepP.put (inj : ∀ a b, ku a = ku b → a = b) (k : κ) {u : U} {v : V} (r : Rep K H u v) {kvs : List (U × U)} {l : List (κ × V)} (h : RepP K H ku kvs l) : RepP K H ku (dput kvs (ku k) u) (putK l k v) := by
  unfold dput putK
  rw [h.any inj k]
  split
  · exact h.repl inj k r
  · exact h.app (p := (ku k, u)) (e := (k, v)) rfl r
end
end L3

set_option Elab.async false
set_option linter.all false
set_option maxRecDepth 100000
set_option maxHeartbeats 4000000
namespace L3
open PySem PySem.Spec L2
open PyProof.Rows hiding St
/-! ### keys -/
def flatK : U → Bool
  | .int _ => true
  | .str _ => true
  | _ => false
/-- what may be a key of a dict: tk: of tuples -/
def isKey : Bool → U → Bool
  | false, u => flatK u
  | true, .kt xs => xs.all flatK
  | true, _ => false
theorem flatK_key {u : U} (h : flatK u = true) : ∃ k, u = keyU k := by
  cases u with
  | int i => exact ⟨.inl i, rfl⟩
  | str s => exact ⟨.inr s, rfl⟩
  | _ => cases h
theorem flatKs_key : ∀ {us : List U}, us.all flatK = true → ∃ ks : List Key, us = ks.map keyU
  | [], _ => ⟨[], rfl⟩
  | u :: us, h => by
    rw [List.all_cons, Bool.and_eq_true] at h
    obtain ⟨k, rfl⟩ := flatK_key h.1
    obtain ⟨ks, rfl⟩ := flatKs_key h.2
    exact ⟨k :: ks, rfl⟩
section
variable {K : Frag} {H : Hp} {M : Mp} {a : Addr} {lk tk : Bool} {kvs : List (U × U)} {u k : U} {v y : V}
theorem rep_key {k : Key} (r : Rep K H (keyU k) v) : v = kV k := by
  cases k with
  | inl i => exact rint r
  | inr s => exact rstr r
theorem repL_keys : ∀ {ks : List Key} {vs : List V}, RepL K H (ks.map keyU) vs → vs = ks.map kV
  | [], vs, r => by simpa only [List.map_nil, RepL] using r
  | k :: ks, vs, r => by
    simp only [List.map_cons, RepL] at r
    obtain ⟨v, vr, rfl, r1, r2⟩ := r
    rw [rep_key r1, repL_keys r2, List.map_cons]
theorem RdL.rd {H : Hp} {a : Addr} {o : HO} (h : RdL lk H a o) : Rd H a o := by
  unfold RdL at h
  cases lk
  · rw [if_neg Bool.false_ne_true] at h; exact .inl h
  · rw [if_pos rfl] at h; exact .inr h
/-- what a dict tells of a key -/
theorem dget_of (m : RM K H M) (e : M a = some (.dic tk lk kvs)) (hk : isKey tk k = true) (r : Rep K H k y) : ∃ o, DGet H a y o ∧ RepO K H (dlook kvs k) o := by
  cases tk with
  | false =>
    obtain ⟨k', rfl⟩ := flatK_key hk
    obtain ⟨l, hl, rp⟩ := m a _ e
    rw [rep_key r]
    exact ⟨_, .inl ⟨l, k', hl.rd, rfl, rfl⟩, rp.look (fun _ _ => keyU_inj) k'⟩
  | true =>
    cases k with
    | kt xs =>
      obtain ⟨ks, rfl⟩ := flatKs_key (show xs.all flatK = true from hk)
      obtain ⟨l, hl, rp⟩ := m a _ e
      simp only [Rep] at r
      obtain ⟨b, vs, rfl, hb, rv⟩ := r
      rw [repL_keys rv] at hb
      exact ⟨_, .inr ⟨l, ks, b, hl.rd, rfl, hb, rfl⟩, rp.look (fun _ _ => keysU_inj) ks⟩
    | _ => cases hk
theorem RM.wrD {o : HO} {mo : MO} {u : HO} (m : RM K H M) (e : H a = some u) (h1 : ∀ xs, u ≠ .tup xs) (h2 : ∀ o x, u ≠ .frz o x) (h3 : ∀ x, u ≠ .own x) (r : RO K (upd H a o) a mo) : RM K (upd H a o) (put M a mo) ∧ TK H (upd H a o) := by
  have tk : TK H (upd H a o) := .wr e h1 h2
  refine ⟨fun b x eb => ?_, tk⟩
  by_cases z : b = a
  · rw [z, put_same] at eb
    cases eb
    rw [z]
    exact r
  · rw [put_ne z] at eb
    exact (m b x eb).keep tk (fun u hu => by rw [upd_ne z]; exact hu) fun c hc => by rw [upd_ne (fun z => by rw [z, e] at hc; cases hc; exact h3 _ rfl)]; exact hc
/-- d[k] = u -/
theorem dput_of (m : RM K H M) (e : M a = some (.dic tk false kvs)) (hk : isKey tk k = true) (hz : kvs.length < sizeLine) (r : Rep K H k y) (rv : Rep K H u v) : ∃ H', DPut H a y v H' ∧ RM K H' (put M a (.dic tk false (dput kvs k u))) ∧ TK H H' := by
  cases tk with
  | false =>
    obtain ⟨k', rfl⟩ := flatK_key hk
    obtain ⟨l, hl, rp⟩ := m a _ e
    rw [rep_key r]
    have hl' : H a = some (.dK l) := hl
    have tkk : TK H (upd H a (.dK (putK l k' v))) := .wr hl' (fun _ z => nomatch z) fun _ _ z => nomatch z
    exact ⟨_, .inl ⟨l, k', hl', rfl, by rw [← rp.len]; exact hz, rfl⟩, m.wrD hl' (fun _ z => nomatch z) (fun _ _ z => nomatch z) (fun _ z => nomatch z) ⟨_, upd_same, (rp.put (fun _ _ => keyU_inj) k' rv).keep tkk⟩⟩
  | true =>
    cases k with
    | kt xs =>
      obtain ⟨ks, rfl⟩ := flatKs_key (show xs.all flatK = true from hk)
      obtain ⟨l, hl, rp⟩ := m a _ e
      have hl' : H a = some (.dT l) := hl
      simp only [Rep] at r
      obtain ⟨b, vs, rfl, hb, rv'⟩ := r
      rw [repL_keys rv'] at hb
      have tkk : TK H (upd H a (.dT (putK l ks v))) := .wr hl' (fun _ z => nomatch z) fun _ _ z => nomatch z
      exact ⟨_, .inr ⟨l, ks, b, hl', rfl, hb, by rw [← rp.len]; exact hz, rfl⟩, m.wrD hl' (fun _ z => nomatch z) (fun _ _ z => nomatch z) (fun _ z => nomatch z) ⟨_, upd_same, (rp.put (fun _ _ => keysU_inj) ks rv).keep tkk⟩⟩
    | _ => cases hk
end
/-! ### subscripts -/
def asL (M : Mp) (a : Addr) (k : List U → Prop) (d : Bool → Bool → List (U × U) → Prop) : Prop := match M a with
  | some (.lst xs) => k xs
  | some (.dic tk lk kvs) => d tk lk kvs
  | _ => False
theorem asL_inv {M : Mp} {a : Addr} {k : List U → Prop} {d : Bool → Bool → List (U × U) → Prop} (h : asL M a k d) : (∃ xs, M a = some (.lst xs) ∧ k xs) ∨ ∃ tk lk kvs, M a = some (.dic tk lk kvs) ∧ d tk lk kvs := by
  unfold asL at h
  cases e : M a with
  | none => rw [e] at h; exact h.elim
  | some o =>
    rw [e] at h
    cases o with
    | lst xs => exact .inl ⟨xs, rfl, h⟩
    | dic tk lk kvs => exact .inr ⟨tk, lk, kvs, rfl, h⟩
    | ins C fs => exact h.elim
    | exc C fs => exact h.elim
def itemQ (xs : List U) (y : U) (M : Mp) (q : QK) : Prop := asI y fun i => ∃ v, atI xs i = some v ∧ q v M
structure rIx (x y : U) (M : Mp) (q : QK) : Prop where
  h : match x with
    | .str s => asI y fun i => s.length ≤ sizeLine ∧ ∃ c, atI s.cps.toList i = some c ∧ q (.str ⟨#[c]⟩) M
    | .tup xs => itemQ xs y M q
    | .kt xs => itemQ xs y M q
    | .lst xs => itemQ xs y M q
    | .ref a => asL M a (fun xs => itemQ xs y M q) fun tk _ kvs => isKey tk y = true ∧ ∃ v, dlook kvs y = some v ∧ q v M
    | _ => False
theorem RepL.at {K : Frag} {H : Hp} {us : List U} {vs : List V} {i : Int} {u : U} (r : RepL K H us vs) (h : atI us i = some u) : ∃ v, atI vs i = some v ∧ Rep K H u v := by
  obtain ⟨j, h1, h2, h3, h4, h5⟩ := atI_get h
  obtain ⟨v, hv, rv⟩ := r.get h2
  refine ⟨v, ?_, rv⟩
  unfold atI at h ⊢
  rw [r.len] at h
  cases e : ixN vs.length i with
  | none => rw [e] at h; cases h
  | some j' =>
    have e' := ixN_seq e
    rw [r.len] at h1
    have : j' = j := Option.some.inj (e'.1.symm.trans h1)
    subst this
    exact hv
section
variable {X : Cx} {pos : Pos} {a b : Expr} {ta tb : TE'}
theorem ix_dict (hu : X.A.units + 1 < cLine) : IxR X (fun x y H Q => ∃ p v, x = .ref p ∧ DGet H p y (some v) ∧ Q v H) := by
  intro value slice pins s σ H x y v u Q I rx ry h hs
  obtain ⟨p, z, rfl, g, q⟩ := h
  cases rx
  exact tail_any (dict_typeIs I g) PySem.F.slot_dict_getitem.lookup (d_getItem hu I g ry fun w' s3 I3 rw' => ⟨z, H, I3, rw', q⟩) hs
theorem qe_ix (hu : X.A.units + 1 < cLine) (ha : QE X a ta) (hb : QE X b tb) (hs : PlainIx b := by intro _ _; rfl) : QE X (.Subscript a b pos) (eBin rIx ta tb) :=
  imE (pe_ix (ix_list.or (ix_tup.or (ix_str.or (ix_dict hu)))) ha hb hs) fun σ H Q ⟨z, M, q, rs, m, h, P⟩ => by
    refine ⟨z, M, _, rs, m, h, fun x M1 h1 vx H1 rx m1 k1 => ⟨z, M1, _, rs.keep k1.tk, m1, h1, fun y M2 h2 vy H2 ry m2 k2 => ?_⟩⟩
    have rx2 := rx.keep k2.tk
    have P2 := P.step (k1.trans k2)
    have lists : ∀ {xs : List U}, seqL M2 x = some xs → itemQ xs y M2 q → rIxL X.K vx vy H2 Q := fun {xs} e hq => by
      obtain ⟨i, rfl, v, hv, hq⟩ := asI_inv hq
      obtain ⟨p, vs, rfl, s, r⟩ := seqL_of m2 e rx2
      obtain ⟨w, hw, rw'⟩ := r.at hv
      exact ⟨p, vs, i, w, rfl, rint ry, s, hw, P2.val hq m2 rw'⟩
    have tups : ∀ {xs : List U}, seqT x = some xs → itemQ xs y M2 q → rIxT X.K vx vy H2 Q := fun {xs} e hq => by
      obtain ⟨i, rfl, v, hv, hq⟩ := asI_inv hq
      obtain ⟨p, vs, rfl, s, r⟩ := seqT_of e rx2
      obtain ⟨w, hw, rw'⟩ := r.at hv
      exact ⟨p, vs, i, w, rfl, rint ry, s, hw, P2.val hq m2 rw'⟩
    cases x with
    | str s =>
      obtain ⟨i, rfl, hz, c, hc, hq⟩ := asI_inv (show asI y fun i => s.length ≤ sizeLine ∧ ∃ c, atI s.cps.toList i = some c ∧ q (.str ⟨#[c]⟩) M2 from h2.h)
      exact .inr (.inr (.inl ⟨s, i, c, rstr rx2, rint ry, hz, hc, P2.val hq m2 .s⟩))
    | tup xs => exact .inr (.inl (tups rfl h2.h))
    | kt xs => exact .inr (.inl (tups rfl h2.h))
    | lst xs => exact .inl (lists rfl h2.h)
    | ref p =>
      rcases asL_inv (show asL M2 p _ _ from h2.h) with ⟨xs, e, hq⟩ | ⟨tk, lk, kvs, e, hk, v, hv, hq⟩
      · exact .inl (lists (by show (match M2 p with | some (.lst xs) => some xs | _ => none) = some xs; rw [e]) hq)
      · obtain ⟨o, g, ro⟩ := dget_of m2 e hk ry
        rw [hv] at ro
        cases o with
        | none => exact ro.elim
        | some w => exact .inr (.inr (.inr ⟨p, w, rref rx2, g, P2.val hq m2 ro⟩))
    | _ => exact (show False from h2.h).elim
/-- o[i] = e -/
def sPut (to ti te : TE') : TS' := fun d z M => te z M fun v M1 => to z M1 fun x M2 => ti z M2 fun y M3 => match x with
  | .ref a => asL M3 a (fun xs => asI y fun i => ∃ j, ixN xs.length i = some j ∧ d.nx z (put M3 a (.lst (xs.set j v)))) fun tk lk kvs => lk = false ∧ isKey tk y = true ∧ kvs.length < sizeLine ∧ d.nx z (put M3 a (.dic tk false (dput kvs y v)))
  | _ => False
/-- a store into a list or a dict, by values -/
theorem set_any (hu : X.A.units + 1 < cLine) : PSet X (fun o i v H Q => rSetL o i v H Q ∨ ∃ p H', o = .ref p ∧ DPut H p i v H' ∧ Q H') := by
  intro pins s σ H o i v ov iv u Q I ro ri rv h
  rcases h with h | ⟨p, H', rfl, g, q⟩
  · exact set_list pins s σ H o i v ov iv u Q I ro ri rv h
  · cases ro
    exact d_setItem hu I g ri rv fun s4 I4 => ⟨H', I4, q⟩
theorem qs_put {o i e : Expr} {to ti te : TE'} {pos' : Pos} (hu : X.A.units + 1 < cLine) (ho : QE X o to) (hi : QE X i ti) (he : QE X e te)
    (ha : ∀ v, assign (.Subscript o i pos') X.env v = (do
      let ov ← holding [v] (eval o X.env)
      let iv ← holding [v, ov] (eval i X.env)
      standAt pos'
      holding [v, ov, iv] (setItem ov iv v)
      release [v, ov, iv] []) := by intro _; rfl)
    (hs : swapsWithSole [.Subscript o i pos'] e pos.line X.env = pure false := by rfl) (hw : swappedStores [.Subscript o i pos'] e X.env = pure none := by rfl) (h1 : (assignEach [.Subscript o i pos'] X.env).map (·.2) = [assign (.Subscript o i pos') X.env] := by rfl) :
    QS X (.Assign [.Subscript o i pos'] e pos) (sPut to ti te) := imS (ps_asg he (pg_sub ho hi (set_any hu) ha) hs hw h1) fun D σ H ⟨z, M, d, rs, m, h, P⟩ => by
  refine ⟨z, M, _, rs, m, h, fun v M1 h1 vv H1 rv m1 k1 => ⟨z, M1, _, rs.keep k1.tk, m1, h1, fun x M2 h2 vx H2 rx m2 k2 => ⟨z, M2, _, (rs.keep k1.tk).keep k2.tk, m2, h2, fun y M3 h3 vy H3 ry m3 k3 => ?_⟩⟩⟩
  have k13 := (k1.trans k2).trans k3
  have rv3 := (rv.keep k2.tk).keep k3.tk
  cases x with
  | ref p =>
    rw [rref rx]
    rcases asL_inv (show asL M3 p _ _ from h3) with ⟨xs, ep, hq⟩ | ⟨tk, lk, kvs, ep, hl, hk, hz, hq⟩
    · obtain ⟨i, rfl, j, hj, hq⟩ := asI_inv hq
      obtain ⟨vs, e1, r1⟩ := m3 p _ ep
      obtain ⟨m4, k4⟩ := m3.wrL e1 (r1.set rv3 j)
      exact .inl ⟨p, vs, i, j, rfl, rint ry, e1, by rw [← r1.len]; exact hj, P.nx z _ hq σ _ ((rs.keep k13.tk).keep k4) m4 ⟨k13.tk.trans k4⟩⟩
    · subst hl
      obtain ⟨H4, g, m4, k4⟩ := dput_of m3 ep hk hz ry rv3
      exact .inr ⟨p, H4, rfl, g, P.nx z _ hq σ _ ((rs.keep k13.tk).keep k4) m4 ⟨k13.tk.trans k4⟩⟩
  | _ => exact (show False from h3).elim
/-- {} -/
def eDic0 : TE' := fun _ M q => (∀ p, M p = none → q (.ref p) (put M p (.dic false false []))) ∨ ∀ p, M p = none → q (.ref p) (put M p (.dic true false []))
theorem PE.or {e : Expr} {t t' : TE} (h : PE X e t) (h' : PE X e t') : PE X e (fun σ H Q => t σ H Q ∨ t' σ H Q) := ⟨fun pins s σ H Q I w => w.elim (h.run pins s σ H Q I) (h'.run pins s σ H Q I)⟩
theorem qe_dic0 : QE X (.Dict [] [] pos) eDic0 := imE (PE.or pe_dnewK pe_dnewT) fun σ H Q ⟨z, M, q, rs, m, h, P⟩ => by
  rcases h with h | h
  · exact .inl fun p hp => P _ _ (h p (m.fresh hp)) _ _ .r (m.new (mo := .dic false false []) hp ⟨[], upd_same, .nil⟩) (.new hp)
  · exact .inr fun p hp => P _ _ (h p (m.fresh hp)) _ _ .r (m.new (mo := .dic true false []) hp ⟨[], upd_same, .nil⟩) (.new hp)
end
end L3

set_option Elab.async false
set_option linter.all false
set_option maxRecDepth 100000
set_option maxHeartbeats 4000000
namespace L3
open PySem PySem.Spec L2
open PyProof.Rows hiding St
/-! ### built-ins called by their names -/
abbrev RC' := List U → Mp → QK → Prop
def lowC (K : Frag) (r : RC') : List V → Hp → VK → Prop := fun xs H Q => ∃ us M q, RepL K H us xs ∧ RM K H M ∧ r us M q ∧ Post K H M q Q
def eB (r : RC') (ta : TA') : TE' := fun z M q => ta z M fun us M1 => r us M1 q
section
variable {X : Cx} {x : Str} {p pos : Pos} {e : Expr} {es : List Expr} {ta : TA'} {id T : String} {r : RC'}
theorem callU {f : Value} {r0 : List V → Hp → VK → Prop} (h : CallR X f r0) (k : ∀ us xs H M q Q, RepL X.K H us xs → RM X.K H M → r us M q → Post X.K H M q Q → r0 xs H Q) : CallR X f (lowC X.K r) :=
  fun pins s σ H xs us Q I rx ⟨ws, M, q, rr, m, hq, P⟩ => h pins s σ H xs us Q I rx (k ws xs H M q Q rr m hq P)
theorem low_B {K : Frag} {σ : L2.St} {H : Hp} {Q : VK} (h : lowE K (eB r ta) σ H Q) : tCB (lowC K r) (lowA K ta) σ H Q := by
  obtain ⟨z, M, q, rs, m, h, P⟩ := h
  exact ⟨z, M, _, rs, m, h, fun us M1 h1 vs H1 r1 m1 k1 => ⟨us, M1, q, r1, m1, h1, P.step k1⟩⟩
theorem qe_B (hc : CallR X (.builtin id) (lowC X.K r)) (hm : X.mg x = none) (hv : bootBuiltins x = some (.builtin id)) (ha : QA X (e :: es) ta) (hg : Gl X x := by rfl) (hn : x ≠ "__name__" := by decide) (hdb : (x == ("__debug__" : Str)) = false := by decide)
    (he : starEach (e :: es) X.env = (false, eval e X.env) :: starEach es X.env := by rfl) (hpl : (backTo pos (starEach es X.env)).any (·.1) = false := by rfl) : QE X (.Call (.Name x p) (e :: es) [] pos) (eB r ta) :=
  imE (pe_callB hc hg hm hv ha hn hdb he hpl) fun _ _ _ h => low_B h
theorem qe_T (hc : CallR X (.type T) (lowC X.K r)) (hm : X.mg x = none) (hv : bootBuiltins x = some (.type T)) (ha : QA X (e :: es) ta) (hg : Gl X x := by rfl) (hn : x ≠ "__name__" := by decide) (hdb : (x == ("__debug__" : Str)) = false := by decide)
    (he : starEach (e :: es) X.env = (false, eval e X.env) :: starEach es X.env := by rfl) (hpl : (backTo pos (starEach es X.env)).any (·.1) = false := by rfl) : QE X (.Call (.Name x p) (e :: es) [] pos) (eB r ta) :=
  imE (pe_callTy hc hg hm hv ha hn hdb he hpl) fun _ _ _ h => low_B h
/-- a built-in class as a value -/
theorem qe_ty {n : String} (hm : X.mg x = none) (hv : bootBuiltins x = some (.type n)) (hg : Gl X x := by rfl) (hn : x ≠ "__name__" := by decide) (hd : (x == ("__debug__" : Str)) = false := by decide) : QE X (.Name x pos) (eC (.ty n)) :=
  qe_cst (pe_bltn (v := .ty n) hg hm hv rfl hn hd) fun H => by simp only [Rep]
theorem RepL.one_inv {K : Frag} {H : Hp} {u : U} {vs : List V} (h : RepL K H [u] vs) : ∃ v, vs = [v] ∧ Rep K H u v := by
  simp only [RepL] at h
  obtain ⟨v, r, rfl, h1, rfl⟩ := h
  exact ⟨v, rfl, h1⟩
theorem RepL.two_inv {K : Frag} {H : Hp} {u w : U} {vs : List V} (h : RepL K H [u, w] vs) : ∃ v y, vs = [v, y] ∧ Rep K H u v ∧ Rep K H w y := by
  simp only [RepL] at h
  obtain ⟨v, r, rfl, h1, y, r2, rfl, h2, rfl⟩ := h
  exact ⟨v, y, rfl, h1, h2⟩
/-! ### len -/
def lenU (M : Mp) : U → Option Nat
  | .str s => some s.length
  | .tup xs => some xs.length
  | .kt xs => some xs.length
  | .lst xs => some xs.length
  | .ref a => match M a with
    | some (.lst xs) => some xs.length
    | some (.dic false _ kvs) => some kvs.length
    | _ => none
  | _ => none
def rLen : RC' := fun us M q => one us fun u => ∃ n, lenU M u = some n ∧ n ≤ sizeLine ∧ q (.int (n : Nat)) M
theorem call_lenD' : CallR X (.builtin "len") (fun xs H Q => ∃ a kvs, xs = [.ref a] ∧ Rd H a (.dK kvs) ∧ Q (.int kvs.length) H) := by
  intro pins s σ H xs us Q I r h
  obtain ⟨a, kvs, rfl, e, q⟩ := h
  obtain ⟨u, rfl, r1⟩ := vals1 r
  cases r1
  exact d_len I e fun t s' I' => ⟨.int kvs.length, H, I', ⟨_, rfl⟩, q⟩
theorem c_len : CallR X (.builtin "len") (lowC X.K rLen) := callU (CallR.or call_len call_lenD') fun us xs H M q Q rr m h P => by
  obtain ⟨u, rfl, n, e, hz, hq⟩ := one_inv h
  obtain ⟨v, rfl, r⟩ := rr.one_inv
  have lst : ∀ {ys : List U}, seqL M u = some ys → ys.length = n → (∃ x n, [v] = [x] ∧ LenV X.K x H n ∧ Q (.int n) H) := fun {ys} e1 e2 => by
    obtain ⟨a, ws, rfl, s, r'⟩ := seqL_of m e1 r
    exact ⟨_, n, rfl, .inl ⟨ws, s, by rw [← r'.len, e2]⟩, P.val hq m .i⟩
  have tup : ∀ {ys : List U}, seqT u = some ys → ys.length = n → (∃ x n, [v] = [x] ∧ LenV X.K x H n ∧ Q (.int n) H) := fun {ys} e1 e2 => by
    obtain ⟨a, ws, rfl, s, r'⟩ := seqT_of e1 r
    exact ⟨_, n, rfl, .inr ⟨ws, s, by rw [← r'.len, e2]⟩, P.val hq m .i⟩
  cases u with
  | str s =>
    cases e
    rw [rstr r]
    exact .inl ⟨_, s.length, rfl, ⟨hz, rfl⟩, P.val hq m .i⟩
  | tup ys => cases e; exact .inl (tup rfl rfl)
  | kt ys => cases e; exact .inl (tup rfl rfl)
  | lst ys => cases e; exact .inl (lst rfl rfl)
  | ref a =>
    have e' : (match M a with | some (.lst xs) => some xs.length | some (.dic false _ kvs) => some kvs.length | _ => none) = some n := e
    cases em : M a with
    | none => rw [em] at e'; cases e'
    | some o =>
      rw [em] at e'
      cases o with
      | lst ys => cases e'; exact .inl (lst (ys := ys) (by show (match M a with | some (.lst xs) => some xs | _ => none) = some ys; rw [em]) rfl)
      | dic tk lk kvs =>
        cases tk with
        | true => cases e'
        | false =>
          cases e'
          obtain ⟨l, hl, rp⟩ := m a _ em
          exact .inr ⟨a, l, by rw [rref r], hl.rd, by rw [← rp.len]; exact P.val hq m .i⟩
      | ins C fs => cases e'
      | exc C fs => cases e'
  | _ => cases e
/-! ### isinstance -/
def tyN (M : Mp) : U → Option String
  | .non => some "NoneType"
  | .bl _ => some "bool"
  | .int _ => some "int"
  | .str _ => some "str"
  | .tup _ => some "tuple"
  | .kt _ => some "tuple"
  | .lst _ => some "list"
  | .ref a => match M a with
    | some (.lst _) => some "list"
    | some (.dic false _ _) => some "dict"
    | some (.dic true false _) => some "dict"
    | _ => none
  | .ty _ => none
def isTy (t n : String) : Bool := t == n || (t == "bool" && n == "int")
def okN (n : String) : Bool := ["int", "bool", "str", "list", "tuple"].contains n
def okTs : List U → Option (List String)
  | [] => some []
  | .ty n :: r => if okN n = true then (okTs r).map (n :: ·) else none
  | _ :: _ => none
theorem kit7 : ∀ t ∈ ["NoneType", "bool", "int", "str", "tuple", "list", "dict"], ∀ n ∈ ["int", "bool", "str", "list", "tuple"], kitB t n = some (isTy t n) := by decide +kernel
theorem tyN_mem {M : Mp} {u : U} {t : String} (h : tyN M u = some t) : t ∈ ["NoneType", "bool", "int", "str", "tuple", "list", "dict"] := by
  cases u with
  | ref a =>
    have h' : (match M a with | some (.lst _) => some "list" | some (.dic false _ _) => some "dict" | some (.dic true false _) => some "dict" | _ => none) = some t := h
    split at h' <;> cases h' <;> decide
  | ty n => cases h
  | _ => cases h; decide
theorem tyN_ok {K : Frag} {H : Hp} {M : Mp} {u : U} {v : V} {t : String} (m : RM K H M) (h : tyN M u = some t) (r : Rep K H u v) : TyX K H v (.type t) := by
  have lst : ∀ {ys : List U}, seqL M u = some ys → TyX K H v (.type "list") := fun {ys} e => by
    obtain ⟨a, ws, rfl, s, _⟩ := seqL_of m e r
    rcases s with (s | ⟨o, s⟩) | ⟨o, its, n, hk, hc, _⟩
    · exact .base (.lst s)
    · exact .base (.frz s)
    · exact .kList hk hc
  have tup : ∀ {ys : List U}, seqT u = some ys → TyX K H v (.type "tuple") := fun {ys} e => by
    obtain ⟨a, ws, rfl, s, _⟩ := seqT_of e r
    rcases s with (s | ⟨o, s⟩) | ⟨o, its, n, hk, hc, _⟩
    · exact .base (.tup s)
    · exact .fTuple s
    · exact .kTuple hk hc
  cases u with
  | non => cases h; rw [rnon r]; exact .base .non
  | bl b => cases h; rw [rbl r]; exact .base (.bl b)
  | int i => cases h; rw [rint r]; exact .base (.int i)
  | str s => cases h; rw [rstr r]; exact .base (.str s)
  | tup ys => cases h; exact tup rfl
  | kt ys => cases h; exact tup rfl
  | lst ys => cases h; exact lst rfl
  | ty n => cases h
  | ref a =>
    have h' : (match M a with | some (.lst _) => some "list" | some (.dic false _ _) => some "dict" | some (.dic true false _) => some "dict" | _ => none) = some t := h
    cases e : M a with
    | none => rw [e] at h'; cases h'
    | some o =>
      rw [e] at h'
      cases o with
      | lst ys => cases h'; exact lst (ys := ys) (by show (match M a with | some (.lst xs) => some xs | _ => none) = some ys; rw [e])
      | dic tk lk kvs =>
        rw [rref r]
        cases tk with
        | false =>
          cases h'
          obtain ⟨l, hl, _⟩ := m a _ e
          rcases hl.rd with q | ⟨o, q⟩
          · exact .base (.dK q)
          · exact .fDict q
        | true =>
          cases lk with
          | true => cases h'
          | false =>
            cases h'
            obtain ⟨l, hl, _⟩ := m a _ e
            exact .base (.dT hl)
      | ins C fs => cases h'
      | exc C fs => cases h'
def rIsi : RC' := fun us M q => two us fun u c => ∃ t, tyN M u = some t ∧ match c with
  | .ty n => okN n = true ∧ q (.bl (isTy t n)) M
  | .kt cs => ∃ ns, okTs cs = some ns ∧ q (.bl (ns.any (isTy t))) M
  | _ => False
theorem okN_mem {n : String} (h : okN n = true) : n ∈ ["int", "bool", "str", "list", "tuple"] := by simpa [okN] using h
theorem okTs_ok {K : Frag} {H : Hp} {t : String} (ht : t ∈ ["NoneType", "bool", "int", "str", "tuple", "list", "dict"]) : ∀ {cs : List U} {ns : List String} {vs : List V}, okTs cs = some ns → RepL K H cs vs →
    Paired ClsV vs (ns.map Value.type) ∧ PySem.W.kitAny K (.type t) (ns.map Value.type) = some (ns.any (isTy t))
  | [], ns, vs, h, r => by
    cases h
    simp only [RepL] at r
    subst r
    exact ⟨.nil, rfl⟩
  | .ty n :: cs, ns, vs, h, r => by
    have h' : (if okN n = true then (okTs cs).map (n :: ·) else none) = some ns := h
    split at h'
    · rename_i hn
      cases e : okTs cs with
      | none => rw [e] at h'; cases h'
      | some ms =>
        rw [e] at h'
        cases h'
        simp only [RepL] at r
        obtain ⟨v, vr, rfl, r1, r2⟩ := r
        obtain ⟨q1, q2⟩ := okTs_ok ht e r2
        rw [rty r1]
        refine ⟨.cons (.ty n) q1, ?_⟩
        refine kitAny_cons (b := isTy t n) (kit_ty (kit7 t ht n (okN_mem hn))) (fun hb => ?_) fun hb => ?_
        · rw [List.any_cons, hb]; exact q2
        · rw [List.any_cons, hb]; rfl
    · cases h'
  | .non :: _, _, _, h, _ => by cases h
  | .bl _ :: _, _, _, h, _ => by cases h
  | .int _ :: _, _, _, h, _ => by cases h
  | .str _ :: _, _, _, h, _ => by cases h
  | .ref _ :: _, _, _, h, _ => by cases h
  | .tup _ :: _, _, _, h, _ => by cases h
  | .kt _ :: _, _, _, h, _ => by cases h
  | .lst _ :: _, _, _, h, _ => by cases h
theorem c_isi : CallR X (.builtin "isinstance") (lowC X.K rIsi) := callU (CallR.or call_isi call_isiT) fun us xs H M q Q rr m h P => by
  obtain ⟨u, c, rfl, t, ht, hq⟩ := two_inv h
  obtain ⟨v, y, rfl, r1, r2⟩ := rr.two_inv
  cases c with
  | ty n => exact .inl ⟨v, y, .type t, .type n, isTy t n, rfl, by rw [rty r2]; exact .ty n, tyN_ok m ht r1, kit_ty (kit7 t (tyN_mem ht) n (okN_mem hq.1)), P.val hq.2 m .b⟩
  | kt cs =>
    obtain ⟨ns, hn, hq⟩ := hq
    simp only [Rep] at r2
    obtain ⟨a, vs, rfl, ha, rv⟩ := r2
    obtain ⟨q1, q2⟩ := okTs_ok (K := X.K) (tyN_mem ht) hn rv
    exact .inr ⟨v, a, vs, .type t, ns.map Value.type, _, rfl, ha, q1, tyN_ok m ht r1, q2, P.val hq m .b⟩
  | _ => exact (show False from hq).elim
/-! ### min, max of two ints; int, str; abs -/
def rTwoI (g : Int → Int → Int) : RC' := fun us M q => two us fun u w => asI u fun i => asI w fun j => q (.int (g i j)) M
theorem c_min2 (hc : X.calm = true) : CallR X (.builtin "min") (lowC X.K (rTwoI fun i j => if j < i then j else i)) := callU (call_min2 hc) fun us xs H M q Q rr m h P => by
  obtain ⟨u, w, rfl, h⟩ := two_inv h
  obtain ⟨i, rfl, h⟩ := asI_inv h
  obtain ⟨j, rfl, h⟩ := asI_inv h
  obtain ⟨v, y, rfl, r1, r2⟩ := rr.two_inv
  exact ⟨i, j, by rw [rint r1, rint r2], P.val h m .i⟩
theorem c_max2 (hc : X.calm = true) : CallR X (.builtin "max") (lowC X.K (rTwoI fun i j => if j > i then j else i)) := callU (call_max2 hc) fun us xs H M q Q rr m h P => by
  obtain ⟨u, w, rfl, h⟩ := two_inv h
  obtain ⟨i, rfl, h⟩ := asI_inv h
  obtain ⟨j, rfl, h⟩ := asI_inv h
  obtain ⟨v, y, rfl, r1, r2⟩ := rr.two_inv
  exact ⟨i, j, by rw [rint r1, rint r2], P.val h m .i⟩
def rStrI : RC' := fun us M q => one us fun u => asI u fun i => i.natAbs.log2 < 1920 ∧ q (.str (toString i)) M
theorem c_str : CallR X (.type "str") (lowC X.K rStrI) := callU call_str_int fun us xs H M q Q rr m h P => by
  obtain ⟨u, rfl, h⟩ := one_inv h
  obtain ⟨i, rfl, hz, h⟩ := asI_inv h
  obtain ⟨v, rfl, r⟩ := rr.one_inv
  exact ⟨i, by rw [rint r], hz, P.val h m .s⟩
end
/-! ### list(..), tuple(..) -/
section
variable {X : Cx}
/-- the items of a list or a tuple -/
def seqA (M : Mp) (u : U) : Option (List U) := match seqT u with
  | some xs => some xs
  | none => seqL M u
theorem seqA_of {K : Frag} {H : Hp} {M : Mp} {u : U} {v : V} {xs : List U} (m : RM K H M) (h : seqA M u = some xs) (r : Rep K H u v) : ∃ a vs, v = .ref a ∧ (SqL K H a vs ∨ SqT K H a vs) ∧ RepL K H xs vs := by
  unfold seqA at h
  cases e : seqT u with
  | some ys =>
    rw [e] at h
    cases h
    obtain ⟨a, vs, h1, h2, h3⟩ := seqT_of e r
    exact ⟨a, vs, h1, .inr h2, h3⟩
  | none =>
    rw [e] at h
    obtain ⟨a, vs, h1, h2, h3⟩ := seqL_of m h r
    exact ⟨a, vs, h1, .inl h2, h3⟩
def rList : RC' := fun us M q => one us fun u => ∃ xs, seqA M u = some xs ∧ newL xs M q
theorem c_list : CallR X (.type "list") (lowC X.K rList) := callU (CallR.fz call_list_of) fun us xs H M q Q rr m h P => by
  obtain ⟨u, rfl, ys, e, h⟩ := one_inv h
  obtain ⟨v, rfl, r⟩ := rr.one_inv
  obtain ⟨a, vs, rfl, s, r'⟩ := seqA_of m e r
  exact ⟨a, vs, rfl, s, fun l hl => newL_ok m r' h P hl⟩
/-- a tuple of a list is new; of a tuple it's that one -/
def rTuple : RC' := fun us M q => one us fun u => ∃ xs, seqA M u = some xs ∧ q (.tup xs) M
theorem c_tuple : CallR X (.type "tuple") (lowC X.K rTuple) := callU call_tuple_of fun us xs H M q Q rr m h P => by
  obtain ⟨u, rfl, ys, e, h⟩ := one_inv h
  obtain ⟨v, rfl, r⟩ := rr.one_inv
  obtain ⟨a, vs, rfl, s, r'⟩ := seqA_of m e r
  refine ⟨a, vs, rfl, ?_⟩
  rcases s with s | s
  · exact .inl ⟨s, fun l hl => newT_ok m r' (.inl h) P hl⟩
  · exact .inr ⟨s, P.val h m (by simp only [Rep]; exact ⟨a, vs, rfl, s, r'⟩)⟩
end
/-! ### methods of built-in things -/
abbrev RM' := U → List U → Mp → QK → Prop
def lowM (K : Frag) (r : RM') : V → List V → Hp → VK → Prop := fun x xs H Q => ∃ u us M q, Rep K H u x ∧ RepL K H us xs ∧ RM K H M ∧ r u us M q ∧ Post K H M q Q
def eM (ok : U → Mp → Prop) (r : RM') (to : TE') (ta : TA') : TE' := fun z M q => to z M fun x M1 => ok x M1 ∧ ta z M1 fun us M2 => r x us M2 q
section
variable {X : Cx} {o e : Expr} {es : List Expr} {to : TE'} {ta : TA'} {name : Str} {apos cpos : Pos} {T id : String} {r : RM'} {ok : U → Mp → Prop}
theorem mthU {r0 : V → List V → Hp → VK → Prop} (h : MtR X id r0) (k : ∀ u us x xs H M q Q, Rep X.K H u x → RepL X.K H us xs → RM X.K H M → r u us M q → Post X.K H M q Q → r0 x xs H Q) : MtR X id (lowM X.K r) :=
  fun pins s σ H x xs v us Q I rx rs ⟨u, ws, M, q, ru, rr, m, hq, P⟩ => h pins s σ H x xs v us Q I rx rs (k u ws x xs H M q Q ru rr m hq P)
theorem qe_bm (pa : PlainAttrs T) (slot : Slot T name id) (hty : typeOf (.builtin id) = pure (.type "method_descriptor")) (hm : MtR X id (lowM X.K r)) (hok : ∀ u x H M, Rep X.K H u x → RM X.K H M → ok u M → tyV X.K T x H) (ho : QE X o to) (ha : QA X (e :: es) ta)
    (hbase : attributeBase o name X.env (eval o X.env) = eval o X.env := by rfl)
    (hfew : ((backTo cpos (starEach (e :: es) X.env)).all (fun x => !x.1) && (backToKw cpos (keywordEach [] X.env)).all (fun x => x.1.isSome)
      && decide ((e :: es).length + ([] : List Keyword).length + (if ([] : List Keyword).isEmpty then 0 else 1) < 30)) = true := by rfl)
    (hline : (apos.endLine == cpos.line) = true := by rfl) (hs : starEach (e :: es) X.env = (false, eval e X.env) :: starEach es X.env := by rfl) (hplain : (backTo cpos (starEach es X.env)).any (·.1) = false := by rfl) :
    QE X (.Call (.Attribute o name apos) (e :: es) [] cpos) (eM ok r to ta) := imE (L2.pe_bm pa slot hty hm ho ha hbase hfew hline hs hplain) fun σ H Q ⟨z, M, q, rs, m, h, P⟩ =>
  ⟨z, M, _, rs, m, h, fun u M1 h1 v H1 r1 m1 k1 => ⟨hok _ _ _ _ r1 m1 h1.1, z, M1, _, rs.keep k1.tk, m1, h1.2, fun us M2 h2 vs H2 r2 m2 k2 => ⟨u, us, M2, q, r1.keep k2.tk, r2, m2, h2, P.step (k1.trans k2)⟩⟩⟩
theorem qe_bm0 (pa : PlainAttrs T) (slot : Slot T name id) (hty : typeOf (.builtin id) = pure (.type "method_descriptor")) (hm : MtR X id (lowM X.K r)) (hok : ∀ u x H M, Rep X.K H u x → RM X.K H M → ok u M → tyV X.K T x H) (ho : QE X o to)
    (hbase : attributeBase o name X.env (eval o X.env) = eval o X.env := by rfl) (hline : (apos.endLine == cpos.line) = true := by rfl) :
    QE X (.Call (.Attribute o name apos) [] [] cpos) (eM ok r to eNil) := imE (L2.pe_bm0 pa slot hty hm ho hbase hline) fun σ H Q ⟨z, M, q, rs, m, h, P⟩ =>
  ⟨z, M, _, rs, m, h, fun u M1 h1 v H1 r1 m1 k1 => ⟨hok _ _ _ _ r1 m1 h1.1, u, [], M1, q, r1, .nil, m1, h1.2, P.step k1⟩⟩
/-- a list that may change -/
def isML (u : U) (M : Mp) : Prop := ∃ a xs, u = .ref a ∧ M a = some (.lst xs)
theorem isML_ty (u : U) (x : V) (H : Hp) (M : Mp) (r : Rep X.K H u x) (m : RM X.K H M) (h : isML u M) : tyV X.K "list" x H := by
  obtain ⟨a, xs, rfl, e⟩ := h
  obtain ⟨vs, e1, _⟩ := m a _ e
  rw [rref r]
  exact .inl ⟨rfl, vs, .of e1⟩
def isS (u : U) (_ : Mp) : Prop := ∃ s, u = .str s
theorem isS_ty (u : U) (x : V) (H : Hp) (M : Mp) (r : Rep X.K H u x) (m : RM X.K H M) (h : isS u M) : tyV X.K "str" x H := by
  obtain ⟨s, rfl⟩ := h
  rw [rstr r]
  rfl
def rAppend : RM' := fun u us M q => one us fun y => ∃ a xs, u = .ref a ∧ M a = some (.lst xs) ∧ xs.length < sizeLine ∧ q .non (put M a (.lst (xs ++ [y])))
theorem m_append : MtR X "list.append" (lowM X.K rAppend) := mthU mt_append fun u us x xs H M q Q ru rr m h P => by
  obtain ⟨y, rfl, a, ys, rfl, e, hz, h⟩ := one_inv h
  obtain ⟨v, rfl, r⟩ := rr.one_inv
  obtain ⟨vs, e1, r1⟩ := m a _ e
  obtain ⟨m2, k2⟩ := m.wrL e1 (r1.app (.cons r .nil))
  exact ⟨a, vs, v, rref ru, rfl, e1, by rw [← r1.len]; exact hz, P _ _ h _ _ .n m2 ⟨k2⟩⟩
structure rPop (u : U) (us : List U) (M : Mp) (q : QK) : Prop where
  h : us = [] ∧ ∃ a xs y, u = .ref a ∧ M a = some (.lst xs) ∧ xs[xs.length - 1]? = some y ∧ q y (put M a (.lst xs.dropLast))
theorem m_pop : MtR X "list.pop" (lowM X.K rPop) := mthU mt_pop fun u us x xs H M q Q ru rr m h P => by
  obtain ⟨rfl, a, ys, y, rfl, e, hy, h⟩ := h.h
  simp only [RepL] at rr
  obtain ⟨vs, e1, r1⟩ := m a _ e
  obtain ⟨v, hv, rv⟩ := r1.get hy
  obtain ⟨m2, k2⟩ := m.wrL e1 r1.dropLast
  exact ⟨a, vs, v, rref ru, rr, e1, by rw [← r1.len]; exact hv, P _ _ h _ _ (rv.keep k2) m2 ⟨k2⟩⟩
def rRev : RM' := fun u us M q => us = [] ∧ ∃ a xs, u = .ref a ∧ M a = some (.lst xs) ∧ q .non (put M a (.lst xs.reverse))
theorem m_reverse : MtR X "list.reverse" (lowM X.K rRev) := mthU mt_reverse fun u us x xs H M q Q ru rr m h P => by
  obtain ⟨rfl, a, ys, rfl, e, h⟩ := h
  simp only [RepL] at rr
  obtain ⟨vs, e1, r1⟩ := m a _ e
  obtain ⟨m2, k2⟩ := m.wrL e1 r1.rev
  exact ⟨a, vs, rref ru, rr, e1, P _ _ h _ _ .n m2 ⟨k2⟩⟩
/-- the texts of a row -/
def strsU : List U → Option (List Str)
  | [] => some []
  | .str s :: r => (strsU r).map (s :: ·)
  | _ :: _ => none
theorem strsU_of : ∀ {us : List U} {ss : List Str}, strsU us = some ss → us = ss.map U.str
  | [], ss, h => by cases h; rfl
  | .str s :: r, ss, h => by
    have h' : (strsU r).map (s :: ·) = some ss := h
    cases e : strsU r with
    | none => rw [e] at h'; cases h'
    | some ts => rw [e] at h'; cases h'; rw [List.map_cons, strsU_of e]
  | .non :: _, _, h => by cases h
  | .bl _ :: _, _, h => by cases h
  | .int _ :: _, _, h => by cases h
  | .ty _ :: _, _, h => by cases h
  | .ref _ :: _, _, h => by cases h
  | .tup _ :: _, _, h => by cases h
  | .kt _ :: _, _, h => by cases h
  | .lst _ :: _, _, h => by cases h
theorem strsU_map : ∀ ss : List Str, strsU (ss.map U.str) = some ss
  | [] => rfl
  | s :: r => by
    show (strsU (r.map U.str)).map (s :: ·) = _
    rw [strsU_map r]
    rfl
theorem repL_strs {K : Frag} {H : Hp} : ∀ {ss : List Str} {vs : List V}, RepL K H (ss.map U.str) vs → vs = ss.map V.str
  | [], vs, h => by simpa only [List.map_nil, RepL] using h
  | s :: r, vs, h => by
    simp only [List.map_cons, RepL] at h
    obtain ⟨v, vr, rfl, h1, h2⟩ := h
    rw [rstr h1, repL_strs h2, List.map_cons]
def rJoin : RM' := fun u us M q => one us fun y => ∃ a xs ss, u = .str a ∧ seqA M y = some xs ∧ strsU xs = some ss ∧ (ss.map (·.length)).sum + ss.length * a.length ≤ 16777216 ∧ q (.str (Txt.join a ss)) M
theorem m_join : MtR X "str.join" (lowM X.K rJoin) := mthU mt_join fun u us x xs H M q Q ru rr m h P => by
  obtain ⟨y, rfl, a, ys, ss, rfl, e, e2, hz, h⟩ := one_inv h
  obtain ⟨v, rfl, r⟩ := rr.one_inv
  obtain ⟨p, vs, rfl, s, r'⟩ := seqA_of m e r
  have e3 := strsU_of e2
  subst e3
  have e4 := repL_strs r'
  subst e4
  exact ⟨a, p, ss, rstr ru, rfl, s, hz, P.val h m .s⟩
end
end L3

set_option Elab.async false
set_option linter.all false
set_option maxRecDepth 100000
set_option maxHeartbeats 4000000
namespace L3
open PySem PySem.Spec L2
open PyProof.Rows hiding St
/-! ### instances -/
/-- the class is plain, and has no such name of its own -/
structure At (K : Frag) (C : Addr) (f : Str) : Prop where
  cl : Cls K C
  no : NoAttr K C f
def eFld (K : Frag) (to : TE') (f : Str) : TE' := fun z M q => to z M fun x M1 => ∃ a C fs v, x = .ref a ∧ M1 a = some (.ins C fs) ∧ At K C f ∧ fs.lookup f = some v ∧ q v M1
theorem RepL.look {K : Frag} {H : Hp} {f : Str} : ∀ {fs : List (Str × U)} {l : List (Str × V)}, fs.map (·.1) = l.map (·.1) → RepL K H (fs.map (·.2)) (l.map (·.2)) → RepO K H (fs.lookup f) (l.lookup f)
  | [], l, e, _ => by
    cases l with
    | nil => exact True.intro
    | cons _ _ => simp at e
  | (g, u) :: fs, l, e, r => by
    cases l with
    | nil => simp at e
    | cons p l =>
      obtain ⟨g', v⟩ := p
      rw [List.map_cons, List.map_cons] at e
      injection e with e1 e2
      have e1' : g = g' := e1
      subst e1'
      simp only [List.map_cons, RepL] at r
      obtain ⟨v', r', ev, q1, q2⟩ := r
      injection ev with h1 h2
      subst h1 h2
      rw [List.lookup_cons, List.lookup_cons]
      cases (f == g) with
      | true => exact q1
      | false => exact RepL.look e2 q2
theorem RepO.get {K : Frag} {H : Hp} {u : U} {o : Option V} (h : RepO K H (some u) o) : ∃ v, o = some v ∧ Rep K H u v := by
  cases o with
  | none => exact (show False from h).elim
  | some v => exact ⟨v, rfl, h⟩
theorem RepO.none {K : Frag} {H : Hp} {o : Option V} (h : RepO K H none o) : o = Option.none := by
  cases o with
  | none => rfl
  | some v => exact (show False from h).elim
def putU (f : Str) (v : U) : List (Str × U) → List (Str × U)
  | [] => [(f, v)]
  | (g, x) :: r => if g = f then (g, v) :: r else (g, x) :: putU f v r
theorem putU_ok {K : Frag} {H : Hp} {f : Str} {u : U} {v : V} (ru : Rep K H u v) : ∀ {fs : List (Str × U)} {l : List (Str × V)}, fs.map (·.1) = l.map (·.1) → RepL K H (fs.map (·.2)) (l.map (·.2)) →
    (putU f u fs).map (·.1) = (putF f v l).map (·.1) ∧ RepL K H ((putU f u fs).map (·.2)) ((putF f v l).map (·.2))
  | [], l, e, r => by
    cases l with
    | nil => exact ⟨rfl, by simpa [putU, putF] using RepL.cons ru .nil⟩
    | cons _ _ => simp at e
  | (g, w) :: fs, l, e, r => by
    cases l with
    | nil => simp at e
    | cons p l =>
      obtain ⟨g', y⟩ := p
      rw [List.map_cons, List.map_cons] at e
      injection e with e1 e2
      have e1' : g = g' := e1
      subst e1'
      simp only [List.map_cons, RepL] at r
      obtain ⟨v', r', ev, q1, q2⟩ := r
      injection ev with h1 h2
      subst h1 h2
      show List.map _ (if g = f then (g, u) :: fs else (g, w) :: putU f u fs) = List.map _ (if g = f then (g, v) :: l else (g, y) :: putF f v l) ∧ RepL K H (List.map _ (if g = f then (g, u) :: fs else (g, w) :: putU f u fs)) (List.map _ (if g = f then (g, v) :: l else (g, y) :: putF f v l))
      by_cases hg : g = f
      · rw [if_pos hg, if_pos hg]
        exact ⟨by rw [List.map_cons, List.map_cons, e2], .cons ru q2⟩
      · rw [if_neg hg, if_neg hg]
        obtain ⟨i1, i2⟩ := putU_ok ru e2 q2
        exact ⟨by rw [List.map_cons, List.map_cons, i1], .cons q1 i2⟩
section
variable {X : Cx} {o e : Expr} {f : Str} {pos pos' : Pos} {to te : TE'}
theorem qe_fld (ho : QE X o to) (hb : attributeBase o f X.env (eval o X.env) = eval o X.env := by rfl) : QE X (.Attribute o f pos) (eFld X.K to f) := imE (pe_fld ho hb) fun σ H Q ⟨z, M, q, rs, m, h, P⟩ =>
  ⟨z, M, _, rs, m, h, fun x M1 h1 vx H1 rx m1 k1 => by
    obtain ⟨a, C, fs, v, rfl, ea, A, l, hq⟩ := h1
    obtain ⟨dx, fl, e1, _, e2, r⟩ := m1 a _ ea
    have ro := RepL.look (f := f) e2 r
    rw [l] at ro
    obtain ⟨w, lw, rw'⟩ := ro.get
    exact ⟨a, C, dx, fl, w, rref rx, e1, A.cl, A.no, lw, (P.step k1).val hq m1 rw'⟩⟩
/-- o.f = e -/
def sFld (K : Frag) (to te : TE') (f : Str) : TS' := fun d z M => te z M fun v M1 => to z M1 fun x M2 => ∃ a C fs, x = .ref a ∧ M2 a = some (.ins C fs) ∧ At K C f ∧ fs.length < 1000 ∧ d.nx z (put M2 a (.ins C (putU f v fs)))
theorem RM.wrI {K : Frag} {H : Hp} {M : Mp} {a C dx : Addr} {l : List (Str × V)} {fs : List (Str × U)} {u : U} {v : V} (m : RM K H M) (e : H a = some (.ins C dx l)) (hd : H dx = some (.own a)) (e2 : fs.map (·.1) = l.map (·.1)) (r : RepL K H (fs.map (·.2)) (l.map (·.2))) (ru : Rep K H u v) :
    RM K (upd H a (.ins C dx (putF f v l))) (put M a (.ins C (putU f u fs))) ∧ TK H (upd H a (.ins C dx (putF f v l))) := by
  have tk : TK H (upd H a (.ins C dx (putF f v l))) := .wr e (fun _ z => nomatch z) fun _ _ z => nomatch z
  obtain ⟨q1, q2⟩ := putU_ok (f := f) (ru.keep tk) e2 (r.keep tk)
  exact m.wrD e (fun _ z => nomatch z) (fun _ _ z => nomatch z) (fun _ z => nomatch z) ⟨dx, _, upd_same, by rw [upd_ne (fun z => by rw [z, e] at hd; cases hd)]; exact hd, q1, q2⟩
theorem qs_fld (ho : QE X o to) (he : QE X e te) (hs : swapsWith e (some (.Attribute o f pos')) pos.line X.env = pure false := by rfl) : QS X (.Assign [.Attribute o f pos'] e pos) (sFld X.K to te f) := imS (ps_fld ho he hs) fun D σ H ⟨z, M, d, rs, m, h, P⟩ =>
  ⟨z, M, _, rs, m, h, fun v M1 h1 vv H1 rv m1 k1 => ⟨z, M1, _, rs.keep k1.tk, m1, h1, fun x M2 h2 vx H2 rx m2 k2 => by
    obtain ⟨a, C, fs, rfl, ea, A, hl, hq⟩ := h2
    obtain ⟨dx, fl, e1, hd, e2, r⟩ := m2 a _ ea
    have hlen : fs.length = fl.length := by simpa using congrArg List.length e2
    obtain ⟨m3, k3⟩ := m2.wrI (f := f) e1 hd e2 r (rv.keep k2.tk)
    refine ⟨a, C, dx, fl, rref rx, e1, A.cl, A.no, by rw [← hlen]; exact hl, P.nx z _ hq σ _ (((rs.keep k1.tk).keep k2.tk).keep k3) m3 ⟨(k1.tk.trans k2.tk).trans k3⟩⟩⟩⟩
end
/-! ### methods of one's own classes -/
def eMeth (C : Addr) (m : Str) (sp : Sp') (W : WX') (to : TE') (ta : TA') : TE' := fun z M q => to z M fun x M1 => ∃ a fs, x = .ref a ∧ M1 a = some (.ins C fs) ∧ fs.lookup m = none ∧ ta z M1 fun us M2 => sp (x :: us) M2 q fun D fs M3 => W D fs z M3
section
variable {X : Cx} {k : Nat} {f C : Addr} {fd : FuncData} {ps : List Str} {x m : Str} {p pos apos : Pos} {e o : Expr} {es : List Expr} {sp : Sp'} {W : WX'} {to : TE'} {ta : TA'}
theorem qe_meth {pl : Sem Bool} (ho : QE X o to) (c : Cls X.K C) (hm : Meth X.K C m f) (F : FnG X.prog X.w X.K X.mg X.base k f fd ps (lowSp X.K sp)) (hr : Room k X.A) (hg : X.A.guards = some []) (tk : Takes X (lowW X.K W)) (hb : Binds X.K fd ps []) (ha : QA X (e :: es) ta)
    (hst : starEach (e :: es) X.env = (false, eval e X.env) :: starEach es X.env := by rfl) (hpl : (backTo pos (starEach es X.env)).any (·.1) = false := by rfl)
    (ht : eval (.Call (.Attribute o m apos) (e :: es) [] pos) X.env = (do
      let ov ← eval o X.env
      standAt apos.atName
      let (f, first) ← holding [ov] (getMethod ov m pl)
      callWith pos f first (backTo pos (starEach (e :: es) X.env)) (backToKw pos (keywordEach [] X.env))) := by rfl) :
    QE X (.Call (.Attribute o m apos) (e :: es) [] pos) (eMeth C m sp W to ta) := by
  refine ⟨fun pins s σ H Q I h => ?_⟩
  obtain ⟨z, M, q, hs, mm, hq, P⟩ := h
  refine PySem.W.methodCall_KW (pl := pl) (thn (ho.run pins s σ H (fun v H1 => ∃ a dx fl, v = .ref a ∧ H1 a = some (.ins C dx fl) ∧ fl.lookup m = none ∧ lowA X.K ta σ H1 fun vs H2 => lowSp X.K sp (v :: vs) H2 Q fun c d H' => lowW X.K W c d σ H') I ⟨z, M, _, hs, mm, hq, ?_⟩) ?_) ht
  · intro u M1 h1 v H1 ru m1 k1
    obtain ⟨a, fs, rfl, ea, l, h2⟩ := h1
    obtain ⟨dx, fl, e1, _, e2, r⟩ := m1 a _ ea
    have ro := RepL.look (f := m) e2 r
    rw [l] at ro
    refine ⟨a, dx, fl, rref ru, e1, ro.none, z, M1, _, hs.keep k1.tk, m1, h2, fun us M2 h3 vs H2 rs m2 k2 => ?_⟩
    exact low_call (.cons (ru.keep k2.tk) rs) m2 ((hs.keep k1.tk).keep k2.tk) (P.step (k1.trans k2)) h3
  · intro ov s1 h1
    obtain ⟨v, H1, I1, r1, a, dx, fl, ev, ea, l, q1⟩ := h1
    subst ev
    cases r1
    refine getmeth_ok I1 ea c hm l ?_
    refine PySem.W.callWith_K (first := [.ref a]) (h₀ := X.base) I.ok.mod.kin hm.kp (thn (ha.run pos pins s1 σ H1 _ I1 q1) ?_) hst hpl
    intro us s2 h2
    obtain ⟨vs, H2, I2, r2, q2⟩ := h2
    exact ⟨I2.kIn, run_fnG (us := .ref a :: us) (vs := .ref a :: vs) F hr hg hb tk I2 (.cons rfl r2) q2⟩
theorem qe_meth0 {pl : Sem Bool} (ho : QE X o to) (c : Cls X.K C) (hm : Meth X.K C m f) (F : FnG X.prog X.w X.K X.mg X.base k f fd ps (lowSp X.K sp)) (hr : Room k X.A) (hg : X.A.guards = some []) (tk : Takes X (lowW X.K W)) (hb : Binds X.K fd ps [])
    (ht : eval (.Call (.Attribute o m apos) [] [] pos) X.env = (do
      let ov ← eval o X.env
      standAt apos.atName
      let (f, first) ← holding [ov] (getMethod ov m pl)
      callWith pos f first (backTo pos (starEach [] X.env)) (backToKw pos (keywordEach [] X.env))) := by rfl) :
    QE X (.Call (.Attribute o m apos) [] [] pos) (eMeth C m sp W to eNil) := by
  refine ⟨fun pins s σ H Q I h => ?_⟩
  obtain ⟨z, M, q, hs, mm, hq, P⟩ := h
  refine PySem.W.methodCall_KW (pl := pl) (thn (ho.run pins s σ H (fun v H1 => ∃ a dx fl, v = .ref a ∧ H1 a = some (.ins C dx fl) ∧ fl.lookup m = none ∧ lowSp X.K sp [v] H1 Q fun c d H' => lowW X.K W c d σ H') I ⟨z, M, _, hs, mm, hq, ?_⟩) ?_) ht
  · intro u M1 h1 v H1 ru m1 k1
    obtain ⟨a, fs, rfl, ea, l, h2⟩ := h1
    obtain ⟨dx, fl, e1, _, e2, r⟩ := m1 a _ ea
    have ro := RepL.look (f := m) e2 r
    rw [l] at ro
    exact ⟨a, dx, fl, rref ru, e1, ro.none, low_call (.cons ru .nil) m1 (hs.keep k1.tk) (P.step k1) h2⟩
  · intro ov s1 h1
    obtain ⟨v, H1, I1, r1, a, dx, fl, ev, ea, l, q1⟩ := h1
    subst ev
    cases r1
    refine getmeth_ok I1 ea c hm l ?_
    exact PySem.W.callWith_K0 (first := [.ref a]) I1.kIn hm.kp (run_fnG (us := [.ref a]) (vs := [.ref a]) F hr hg hb tk I1 (.cons rfl .nil) q1)
/-! ### C(..): a new instance, then its __init__ -/
def eMake (C : Addr) (sp : Sp') (W : WX') (ta : TA') : TE' := fun z M q => ta z M fun us M1 => ∀ x, M1 x = none → sp (.ref x :: us) (put M1 x (.ins C [])) (fun v M2 => v = .non ∧ q (.ref x) M2) fun D fs M3 => W D fs z M3
theorem qe_make (Mk' : Mk X.K C f) (F : FnG X.prog X.w X.K X.mg X.base k f fd ps (lowSp X.K sp)) (hr : Room (k + 1) X.A) (hg : X.A.guards = some []) (tk : Takes X (lowW X.K W)) (hm : X.mg x = some (.ref C)) (hb : Binds X.K fd ps []) (ha : QA X (e :: es) ta)
    (hgl : Gl X x := by rfl) (hdb : (x == ("__debug__" : Str)) = false := by decide) (he : starEach (e :: es) X.env = (false, eval e X.env) :: starEach es X.env := by rfl) (hpl : (backTo pos (starEach es X.env)).any (·.1) = false := by rfl) :
    QE X (.Call (.Name x p) (e :: es) [] pos) (eMake C sp W ta) := by
  refine ⟨fun pins s σ H Q I h => ?_⟩
  obtain ⟨z, M, q, hs, mm, hq, P⟩ := h
  refine wpAny_Call_Name_kw (ld_glob I hgl hm ?_ hdb)
  refine PySem.W.callWith_K (h₀ := X.base) I.ok.mod.kin Mk'.kp ?_ he hpl
  refine thn (ha.run pos pins s σ H (fun vs H1 => ∀ x dx, H1 x = none → H1 dx = none → dx ≠ x → lowSp X.K sp (.ref x :: vs) (upd (upd H1 dx (.own x)) x (.ins C dx [])) (fun v H2 => v = .non ∧ Q (.ref x) H2) fun c d H' => lowW X.K W c d σ H') I ⟨z, M, _, hs, mm, hq, ?_⟩) ?_
  · intro us M1 h1 vs H1 r m1 k1 x dx hx hdx hne
    have t1 : TK H1 (upd H1 dx (.own x)) := .new hdx
    have hx1 : upd H1 dx (.own x) x = none := by rw [upd_ne (Ne.symm hne)]; exact hx
    have t2 : TK H1 (upd (upd H1 dx (.own x)) x (.ins C dx [])) := t1.trans (.new hx1)
    have m2 : RM X.K (upd (upd H1 dx (.own x)) x (.ins C dx [])) (put M1 x (.ins C [])) :=
      (m1.hid hdx).new (mo := .ins C []) hx1 ⟨dx, [], upd_same, by rw [upd_ne hne, upd_same], rfl, by simpa using RepL.nil⟩
    refine ⟨.ref x :: us, _, _, _, .cons .r (r.keep t2), m2, h1 x (m1.fresh hx), fun u M2 h2 v H2 ru mm2 k2 => ?_, fun D fs M3 w cls d H3 xr m3 k3 => ⟨D, fs, z, M3, xr, ((hs.keep k1.tk).keep t2).keep k3.tk, m3, w⟩⟩
    obtain ⟨rfl, h2⟩ := h2
    exact ⟨rnon ru, P _ _ h2 _ _ .r mm2 ⟨(k1.tk.trans t2).trans k2.tk⟩⟩
  · intro us s1 h1
    obtain ⟨vs, H1, I1, r, q1⟩ := h1
    refine ⟨I1.kIn, ?_⟩
    have hq1 := q1 (s1.heap.objs.size + 1) s1.heap.objs.size (I1.hok.fresh (Nat.le_succ _)) (I1.hok.fresh (Nat.le_refl _)) (Nat.ne_of_lt (Nat.lt_succ_self _))
    have I2 := Inv.made (C := C) I1
    have r2 : Vals (V.ref (s1.heap.objs.size + 1) :: vs) (Value.ref (s1.heap.objs.size + 1) :: us) := .cons rfl r
    have hl : (Value.ref (s1.heap.objs.size + 1) :: us).length = ps.length := by
      have el := r2.length
      rw [F.len _ _ _ _ hq1] at el
      exact el.symm
    have hbb := hb _ (Value.ref (s1.heap.objs.size + 1) :: us) I2.kIn (by simpa using hl)
    rw [List.append_nil] at hbb
    refine wpAny_call (make_map (f := f) I1.kIn Mk'.makes Mk'.init (beq_iff_eq.mp Mk'.fn) (codeAny_mono (F.run _ X.stack _ _ ⟨Value.ref (s1.heap.objs.size + 1) :: us, []⟩ (Value.ref (s1.heap.objs.size + 1) :: us) _ _ _ (hr.make C us []) ?_ (I2.env0.make C us []) hbb r2 hq1) ?_))
    · first | exact hg | (simpa [Around.under, Code.guards, Code.isGuard, pushGuards] using hg)
    · intro res s' hq'
      cases res with
      | error er => exact tk _ _ (XE.of_call I2 (fun _ _ _ w => w) hq')
      | ok fl =>
        cases fl with
        | ret u =>
          obtain ⟨v, H', I3, rv, ev, q3⟩ := I2.after hq'
          subst ev
          exact ⟨rv, ⟨V.ref (s1.heap.objs.size + 1), H', I3, rfl, q3⟩⟩
        | next => exact hq'.elim
        | brk => exact hq'.elim
        | cont => exact hq'.elim
end
end L3

set_option Elab.async false
set_option linter.all false
set_option maxRecDepth 100000
set_option maxHeartbeats 4000000
namespace L3
open PySem PySem.Spec L2
open PyProof.Rows hiding St
open PySem.W (EachIs)
/-! ### sorted(..) -/
theorem rep_kV {K : Frag} {H : Hp} : ∀ k : Key, Rep K H (keyU k) (kV k)
  | .inl _ => .i
  | .inr _ => .s
theorem repL_kV {K : Frag} {H : Hp} : ∀ ks : List Key, RepL K H (ks.map keyU) (ks.map kV)
  | [] => .nil
  | k :: ks => .cons (rep_kV k) (repL_kV ks)
def dOf (u : U) : PyData := (dT u).getD .none
def sortU (us : List U) : List U := us.mergeSort (PySem.W.dataLe false dOf)
/-- what may be sorted -/
structure SortOk (us : List U) : Prop where
  dat : ∀ u ∈ us, (dT u).isSome = true
  alk : PySem.W.AllAlike (us.map dOf)
  srt : PySem.W.Sortable (us.map dOf)
  dep : ∀ u ∈ us, (dOf u).depth ≤ 60
section
variable {X : Cx} {pins : List (Addr × Obj)} {σ : L2.St} {H : Hp} {s : Shared}
theorem each_of (I : Inv X pins σ H s) : ∀ {us : List U} {vs : List V} {its : List Value}, RepL X.K H us vs → Vals vs its → (∀ u ∈ us, (dT u).isSome = true) →
    EachIs (fun v (b : U × V) => RelV b.2 v) its (us.zip vs) ∧ EachIs (fun v (b : U × V) => ∃ as, Reads s.heap v (dOf b.1) as) its (us.zip vs)
  | [], vs, its, rl, rv, _ => by
    simp only [RepL] at rl
    subst rl
    cases rv
    exact ⟨.nil, .nil⟩
  | u :: us, vs, its, rl, rv, h => by
    simp only [RepL] at rl
    obtain ⟨v, r, rfl, r1, r2⟩ := rl
    cases rv with
    | cons a b =>
      obtain ⟨q1, q2⟩ := each_of I r2 b fun u hu => h u (List.mem_cons_of_mem _ hu)
      have hs := h u (List.mem_cons_self ..)
      cases e : dT u with
      | none => rw [e] at hs; cases hs
      | some d =>
        have ed : dOf u = d := by unfold dOf; rw [e]; rfl
        refine ⟨.cons a q1, .cons ?_ q2⟩
        show ∃ as, Reads s.heap _ (dOf u) as
        rw [ed]
        exact Dp.reads I d v _ (dT_ok e r1) a
theorem vals_each : ∀ {out : List Value} {bs : List (U × V)}, EachIs (fun v (b : U × V) => RelV b.2 v) out bs → Vals (bs.map (·.2)) out
  | [], _, .nil => .nil
  | _ :: _, _, .cons h t => .cons h (vals_each t)
theorem repL_pairs {K : Frag} {H : Hp} : ∀ {bs : List (U × V)}, (∀ b ∈ bs, Rep K H b.1 b.2) → RepL K H (bs.map (·.1)) (bs.map (·.2))
  | [], _ => .nil
  | b :: bs, h => .cons (h b (List.mem_cons_self ..)) (repL_pairs fun c hc => h c (List.mem_cons_of_mem _ hc))
theorem repL_zip {K : Frag} {H : Hp} : ∀ {us : List U} {vs : List V}, RepL K H us vs → ∀ b ∈ us.zip vs, Rep K H b.1 b.2
  | [], _, _, b, hb => by simp at hb
  | u :: us, _, rl, b, hb => by
    simp only [RepL] at rl
    obtain ⟨v, r, rfl, r1, r2⟩ := rl
    rw [List.zip_cons_cons] at hb
    rcases List.mem_cons.mp hb with rfl | hb
    · exact r1
    · exact repL_zip r2 b hb
theorem sort_zip {us : List U} {vs : List V} (hl : us.length = vs.length) : ((us.zip vs).mergeSort (PySem.W.dataLe false fun b : U × V => dOf b.1)).map (·.1) = sortU us := by
  unfold sortU
  have e := List.map_mergeSort (r := PySem.W.dataLe false fun b : U × V => dOf b.1) (s := PySem.W.dataLe false dOf) (f := fun b : U × V => b.1) (l := us.zip vs) (fun a _ b _ => rfl)
  rw [e, show List.map (fun b : U × V => b.1) (us.zip vs) = us from List.map_fst_zip (by omega)]
theorem enc_zip {us : List U} {vs : List V} (hl : us.length = vs.length) : (us.zip vs).map (fun b : U × V => dOf b.1) = us.map dOf := by
  have : (us.zip vs).map (fun b : U × V => dOf b.1) = ((us.zip vs).map (·.1)).map dOf := by rw [List.map_map]; rfl
  rw [this, List.map_fst_zip (by omega)]
theorem call_sortT (hu : X.A.units + 64 < cLine) : CallR X (.builtin "sorted") (fun xs H Q => ∃ a us vs, xs = [.ref a] ∧ SqL X.K H a vs ∧ RepL X.K H us vs ∧ SortOk us ∧
    ∀ p ws, H p = none → RepL X.K H (sortU us) ws → Q (.ref p) (upd H p (.lst ws))) := by
  intro pins s σ H xs uu Q I r h
  obtain ⟨a, us, vs, rfl, hs, rl, ok, q⟩ := h
  obtain ⟨its, rv, hl, hz⟩ := I.list hs
  rw [Vals.ref1 r]
  obtain ⟨e1, e2⟩ := each_of I rl rv ok.dat
  have hlen := rl.len
  have hb : (us.zip vs).length = us.length := by rw [List.length_zip]; omega
  refine PySem.W.sorted_data (enc := fun b : U × V => dOf b.1) hl.isList e1 e2 (by rw [enc_zip hlen]; exact ok.alk) (by rw [enc_zip hlen]; exact ok.srt) (by rw [hb, hlen]; exact hz)
    (fun b hb => ?_) fun out hol ho => ?_
  · have := ok.dep b.1 (List.of_mem_zip hb).1
    omega
  obtain ⟨ep, he'⟩ := PyProof.Rows.sortedAll_at s.heap its out.toArray
  have hv := vals_each ho
  have hlen2 : ((((us.zip vs).mergeSort (PySem.W.dataLe false fun b : U × V => dOf b.1))).map (·.2)).length ≤ sizeLine := by
    rw [List.length_map, List.length_mergeSort, hb, hlen]; exact hz
  refine ⟨.ref _, upd H (s.heap.objs.size + 1) _, I.laid (t' := s.toks) (fun _ _ => PyProof.Rows.sortedAll_old) (Nat.le_succ _) (show ObjOk X.prog X.w _ _ _ (.lst _) from ⟨hlen2, out, ep, hv, he'⟩), rfl, q _ _ (I.hok.fresh (Nat.le_succ _)) ?_⟩
  rw [← sort_zip hlen]
  exact repL_pairs fun b hb => repL_zip rl b (List.mem_mergeSort.mp hb)
theorem sort_end (hu : X.A.units + 64 < cLine) {us : List U} {vs : List V} {its : List Value} {h' : Heap} {tk : Nat} {Q : VK} {P : PySem.Fin → Shared → Prop} (I0 : Inv X pins σ H s) (hk : ∀ b o, s.heap.get? b = some o → h'.get? b = some o) (rl : RepL X.K H us vs) (rv : Vals vs its) (ok : SortOk us) (hz : its.length ≤ sizeLine)
    (q : ∀ p ws, H p = none → RepL X.K H (sortU us) ws → Q (.ref p) (upd H p (.lst ws)))
    (hP : ∀ s', EP X pins σ Q (.ref h'.objs.size) s' → P (.done (.ret .none)) s') :
    wpAny (model X.prog X.w) X.A.in1.in1 (Builtin.«list.sort» ⟨[.ref h'.objs.size], []⟩) P X.xe { s with heap := h'.push (seqObj "list" its.toArray 0), toks := tk } := by
  have hoL : (h'.push (seqObj "list" its.toArray 0)).get? h'.objs.size = some (seqObj "list" its.toArray 0) := Heap.get?_push_size _ rfl
  have I1 : Inv X pins σ H { s with heap := h', toks := tk } := I0.kept hk
  have old : ∀ b o, h'.get? b = some o → (PySem.W.sortingHeap (h'.push (seqObj "list" its.toArray 0)) h'.objs.size its).get? b = some o := fun b o e =>
    PySem.W.sortingHeap_old (Nat.ne_of_lt (Heap.lt_size e)) (Heap.get?_push_of_some _ e)
  obtain ⟨e1, e2⟩ := each_of I1 rl rv ok.dat
  have e2' : EachIs (fun v (b : U × V) => ∃ as, Reads (PySem.W.sortingHeap (h'.push (seqObj "list" its.toArray 0)) h'.objs.size its) v (dOf b.1) as) its (us.zip vs) := e2.mono fun _ _ ⟨as, r⟩ => ⟨as, PyProof.Rows.Reads.keeps old r⟩
  have hlen := rl.len
  have hb : (us.zip vs).length = us.length := by rw [List.length_zip]; omega
  refine PySem.W.list_sort_vals (s := { s with heap := h'.push (seqObj "list" its.toArray 0), toks := tk }) (κ := PySem.W.dataKind (PySem.W.sortingHeap (h'.push (seqObj "list" its.toArray 0)) h'.objs.size its) ((us.zip vs).map fun b : U × V => dOf b.1)) hoL
    (PySem.W.SortsAt.data (s := { s with heap := PySem.W.sortingHeap (h'.push (seqObj "list" its.toArray 0)) h'.objs.size its, toks := tk }) (PySem.W.each_map (R := fun v d => ∃ as, Reads (PySem.W.sortingHeap (h'.push (seqObj "list" its.toArray 0)) h'.objs.size its) v d as) (fun b : U × V => dOf b.1) e2') (by rw [enc_zip hlen]; exact ok.alk) (by rw [enc_zip hlen]; exact ok.srt) ?_) hz ?_
  · intro d hd
    rw [enc_zip hlen] at hd
    obtain ⟨u, hu', rfl⟩ := List.mem_map.mp hd
    have := ok.dep u hu'
    show X.A.units + 1 + 1 + _ < cLine
    omega
  · have ho := PySem.W.sortVals_data false e1 e2' (by rw [enc_zip hlen]; exact ok.alk)
    obtain ⟨e', he'⟩ := PyProof.Rows.sortedHeap_at (vs := its) (out := (PySem.W.sortVals (PySem.W.dataKind (PySem.W.sortingHeap (h'.push (seqObj "list" its.toArray 0)) h'.objs.size its) ((us.zip vs).map fun b : U × V => dOf b.1)) false its its).toArray) hoL
    have hv := vals_each ho
    have hlen2 : ((((us.zip vs).mergeSort (PySem.W.dataLe false fun b : U × V => dOf b.1))).map (·.2)).length ≤ sizeLine := by
      rw [List.length_map, List.length_mergeSort, hb, hlen, rv.length]; exact hz
    refine hP _ ⟨.ref h'.objs.size, upd H h'.objs.size _, I1.laid (t' := tk) (fun b u e => ?_) (Nat.le_refl _) (show ObjOk X.prog X.w _ _ _ (.lst _) from ⟨hlen2, _, e', hv, he'⟩), rfl, q _ _ (I1.hok.fresh (Nat.le_refl _)) ?_⟩
    · have hb : b < h'.objs.size := Heap.lt_size e
      rw [PyProof.Rows.sortedHeap_old (Nat.ne_of_lt hb) (by rw [size_push']; exact Nat.lt_succ_of_lt hb)]
      exact Heap.get?_push_of_some _ e
    · rw [← sort_zip hlen]
      exact repL_pairs fun b hb => repL_zip rl b (List.mem_mergeSort.mp hb)
/-- sorted(d), keys ints or texts -/
theorem call_sortK (hc : X.calm = true) (hu : X.A.units + 64 < cLine) : CallR X (.builtin "sorted") (fun xs H Q => ∃ a kvs l, xs = [.ref a] ∧ Rd H a (.dK l) ∧ RepP X.K H keyU kvs l ∧ SortOk (kvs.map (·.1)) ∧
    ∀ p ws, H p = none → RepL X.K H (sortU (kvs.map (·.1))) ws → Q (.ref p) (upd H p (.lst ws))) := by
  intro pins s σ H xs uu Q I r h
  obtain ⟨a, kvs, l, rfl, hd, rp, ok, q⟩ := h
  obtain ⟨u, rfl, rx⟩ := vals1 r
  cases rx
  obtain ⟨z, lo, vs, rel, dd⟩ := dk_rd I.hok hd
  obtain ⟨ep, hat⟩ := dd.dictAt
  have hl : l.length = vs.length := Paired.length rel
  have h16 : vs.length ≤ sizeLine := by rw [← hl]; exact z
  refine Calls.call_function_entry PyProof.Rows.kind_sorted PyProof.Rows.plain_sorted PyProof.Rows.entry_sorted (PyProof.Rows.args_sorted1 _) ?_
  unfold Builtin.«sorted»
  refine wpAny_bind (m := checkCount "sorted" 1 1 _) (wpAny_pure ?_)
  refine wpAny_bind (PySem.W.kdu_collect (A := X.A.in1) (PySem.W.kdl_dict (knd := mixKind X.prog X.w) (kvs := vs) (ep := ep) lo) (I.ok.hd hc) hat h16 fun h' tk acc hk hacc => ?_)
  have hal : acc.toList.length = vs.length := by rw [Array.length_toList, hacc.1]
  have rv : Vals (l.map fun kv => kV kv.1) acc.toList := by
    refine vals_of_at (by rw [List.length_map, hal, hl]) fun j x w h1 h2 => ?_
    obtain ⟨k, y, hky, hi⟩ := hacc.2 j w (by rw [← Array.getElem?_toList]; exact h2)
    have e1 : (l.map (·.1))[j]? = some k := by
      rw [KV.keys rel, List.getElem?_map, hky] <;> rfl
    have e2 : (l.map fun kv => kV kv.1)[j]? = some (kV k) := by
      have e3 : (l.map fun kv => kV kv.1) = (l.map (·.1)).map kV := by rw [List.map_map] <;> rfl
      rw [e3, List.getElem?_map, e1] <;> rfl
    rw [e2] at h1
    cases h1
    exact keyIs_rel hi
  have rl : RepL X.K H (kvs.map (·.1)) (l.map fun kv => kV kv.1) := by
    rw [rp.1]
    refine RepL.ofGet (by simp) fun i u v e1 e2 => ?_
    rw [List.getElem?_map] at e1 e2
    cases e : l[i]? with
    | none => rw [e] at e1; cases e1
    | some p =>
      rw [e] at e1 e2
      cases e1
      cases e2
      exact rep_kV _
  refine wpAny_bind (wpAny_newList ?_ (by rw [hal]; exact h16))
  have hoL : (h'.push (seqObj "list" acc.toList.toArray 0)).get? h'.objs.size = some (seqObj "list" acc.toList.toArray 0) := Heap.get?_push_size _ rfl
  show wpAny _ _ _ _ _ { s with heap := h'.push (seqObj "list" acc.toList.toArray 0), toks := tk }
  refine wpAny_bind (wpAny_holding (wpAny_call_entry PyProof.Rows.slot_list_sort ⟨_, hoL, rfl⟩ PyProof.Rows.entry_list_sort (sort_end hu I hk rl rv ok (by rw [hal]; exact h16) q fun s' e => ⟨_, rfl, ?_⟩) (PyProof.Rows.args_list_sort _)))
  exact wpAny_pure ⟨_, rfl, e⟩
/-- sorted(d), keys tuples -/
theorem call_sortKT (hc : X.calm = true) (hu : X.A.units + 64 < cLine) : CallR X (.builtin "sorted") (fun xs H Q => ∃ a kvs l, xs = [.ref a] ∧ Rd H a (.dT l) ∧ RepP X.K H keysU kvs l ∧ SortOk (kvs.map (·.1)) ∧
    ∀ p ws, H p = none → RepL X.K H (sortU (kvs.map (·.1))) ws → Q (.ref p) (upd H p (.lst ws))) := by
  intro pins s σ H xs uu Q I r h
  obtain ⟨a, kvs, l, rfl, hd, rp, ok, q⟩ := h
  obtain ⟨u, rfl, rx⟩ := vals1 r
  cases rx
  obtain ⟨z, hs, ks, pr, o, es, ep, ho, hx, hdt, he, hn⟩ := (show ObjOk X.prog X.w H s.heap a (.dT l) from hd.ok I.hok)
  have l1 : es.size = ks.length := size_of_entries he
  have l2 : l.length = ks.length := Paired.length pr
  have h16 : es.size ≤ sizeLine := by omega
  refine Calls.call_function_entry PyProof.Rows.kind_sorted PyProof.Rows.plain_sorted PyProof.Rows.entry_sorted (PyProof.Rows.args_sorted1 _) ?_
  unfold Builtin.«sorted»
  refine wpAny_bind (m := checkCount "sorted" 1 1 _) (wpAny_pure ?_)
  refine wpAny_bind (PySem.W.kdu_collect (A := X.A.in1) (kdl_raw hs hx hdt) (I.ok.hd hc) ho h16 fun h' tk acc hk hacc => ?_)
  have hal : acc.toList.length = ks.length := by rw [Array.length_toList, hacc.1]; exact l1
  have ea : acc.toList = ks.map fun x => Value.ref x.2.1 := by
    apply List.ext_getElem?
    intro j
    rw [List.getElem?_map]
    cases hj : acc.toList[j]? with
    | none =>
      have h1 := List.getElem?_eq_none_iff.mp hj
      rw [List.getElem?_eq_none (by omega)]
      all_goals rfl
    | some v =>
      obtain ⟨en, hen, hv⟩ := hacc.2 j v (by rw [← Array.getElem?_toList]; exact hj)
      have qe := entry_at he j
      rw [hen] at qe
      cases hb : ks[j]? with
      | none =>
        rw [hb] at qe
        exact nomatch (show some en = none from qe)
      | some b =>
        rw [hb] at qe
        have e2 : en = entryOfKey (tupleKind (mixKind X.prog X.w)) b := Option.some.inj qe
        rw [hv, e2]
        all_goals rfl
  have eb : acc.toList = (ks.map fun x => x.2.1).map Value.ref := by rw [ea, List.map_map]; all_goals rfl
  have rv : Vals ((ks.map fun x => x.2.1).map V.ref) acc.toList := by rw [eb]; exact vals_refs _
  have ik := isKeys_of pr
  have rl : RepL X.K H (kvs.map (·.1)) ((ks.map fun x => x.2.1).map V.ref) := by
    rw [rp.1]
    refine RepL.ofGet (by simp [l2]) fun i u v e1 e2 => ?_
    rw [List.getElem?_map] at e1
    rw [List.getElem?_map] at e2
    cases e : l[i]? with
    | none => rw [e] at e1; cases e1
    | some p =>
      rw [e] at e1
      cases e1
      cases e' : (ks.map fun x => x.2.1)[i]? with
      | none => rw [e'] at e2; cases e2
      | some b =>
        rw [e'] at e2
        cases e2
        have hb : H b = some (.tup (p.1.map kV)) := by
          unfold IsKeys at ik
          obtain ⟨p', e3, e4⟩ := L2.DX.pget ik e'
          rw [e] at e3
          cases e3
          exact e4
        show Rep X.K H (keysU p.1) (.ref b)
        unfold keysU
        simp only [Rep]
        exact ⟨b, _, rfl, hb, repL_kV _⟩
  refine wpAny_bind (wpAny_newList ?_ (by rw [hal]; omega))
  have hoL : (h'.push (seqObj "list" acc.toList.toArray 0)).get? h'.objs.size = some (seqObj "list" acc.toList.toArray 0) := Heap.get?_push_size _ rfl
  show wpAny _ _ _ _ _ { s with heap := h'.push (seqObj "list" acc.toList.toArray 0), toks := tk }
  refine wpAny_bind (wpAny_holding (wpAny_call_entry PyProof.Rows.slot_list_sort ⟨_, hoL, rfl⟩ PyProof.Rows.entry_list_sort (sort_end hu I hk rl rv ok (by rw [hal]; omega) q fun s' e => ⟨_, rfl, ?_⟩) (PyProof.Rows.args_list_sort _)))
  exact wpAny_pure ⟨_, rfl, e⟩
/-- a list's items sorted, a dict's keys -/
def rSorted : RC' := fun us M q => one us fun u => (∃ xs, seqL M u = some xs ∧ SortOk xs ∧ newL (sortU xs) M q) ∨ ∃ a tk lk kvs, u = .ref a ∧ M a = some (.dic tk lk kvs) ∧ SortOk (kvs.map (·.1)) ∧ newL (sortU (kvs.map (·.1))) M q
theorem c_sorted (hc : X.calm = true) (hu : X.A.units + 64 < cLine) : CallR X (.builtin "sorted") (lowC X.K rSorted) :=
  callU (CallR.fz (CallR.or (call_sortT hu) (CallR.or (call_sortK hc hu) (call_sortKT hc hu)))) fun us xs H M q Q rr m h P => by
    obtain ⟨u, rfl, h⟩ := one_inv h
    obtain ⟨v, rfl, r⟩ := rr.one_inv
    rcases h with ⟨ys, e, ok, h⟩ | ⟨a, tk, lk, kvs, rfl, e, ok, h⟩
    · obtain ⟨a, vs, rfl, s, r'⟩ := seqL_of m e r
      exact .inl ⟨a, ys, vs, rfl, s, r', ok, fun p ws hp rw' => newL_ok m rw' h P hp⟩
    · rw [rref r]
      cases tk with
      | false =>
        obtain ⟨l, hl, rp⟩ := m a _ e
        exact .inr (.inl ⟨a, kvs, l, rfl, hl.rd, rp, ok, fun p ws hp rw' => newL_ok m rw' h P hp⟩)
      | true =>
        obtain ⟨l, hl, rp⟩ := m a _ e
        exact .inr (.inr ⟨a, kvs, l, rfl, hl.rd, rp, ok, fun p ws hp rw' => newL_ok m rw' h P hp⟩)
end
end L3

set_option Elab.async false
set_option linter.all false
set_option maxRecDepth 100000
set_option maxHeartbeats 4000000
namespace L3
open PySem PySem.Spec L2
open PyProof.Rows hiding St
/-! ### dict(pairs) -/
def pairsU : List U → Option (List (U × U))
  | [] => some []
  | x :: r => match seqT x, pairsU r with
    | some [k, v], some ps => some ((k, v) :: ps)
    | _, _ => none
def mergeU (acc more : List (U × U)) : List (U × U) := more.foldl (fun acc p => dput acc p.1 p.2) acc
def mergeT (acc more : List (List Key × V)) : List (List Key × V) := more.foldl (fun acc p => putK acc p.1 p.2) acc
theorem mergeT_len : ∀ (more acc : List (List Key × V)), (mergeT acc more).length ≤ acc.length + more.length
  | [], acc => by simp [mergeT]
  | p :: more, acc => by
    have h := mergeT_len more (putK acc p.1 p.2)
    have h2 : (putK acc p.1 p.2).length ≤ acc.length + 1 := by
      unfold putK
      split
      · rw [List.length_map]; omega
      · rw [List.length_append]; simp
    show (mergeT (putK acc p.1 p.2) more).length ≤ _
    rw [List.length_cons]
    omega
theorem RepP.merge {K : Frag} {H : Hp} {κ : Type} [DecidableEq κ] {ku : κ → U} (inj : ∀ a b, ku a = ku b → a = b) : ∀ {more : List (U × U)} {lm : List (κ × V)} {acc : List (U × U)} {la : List (κ × V)}, RepP K H ku more lm → RepP K H ku acc la →
    RepP K H ku (mergeU acc more) (lm.foldl (fun acc p => putK acc p.1 p.2) la)
  | [], lm, acc, la, h, ha => by rw [h.nil_inv]; exact ha
  | p :: more, lm, acc, la, h, ha => by
    obtain ⟨e, r, rfl, h1, h2, h3⟩ := h.split
    show RepP K H ku (mergeU (dput acc p.1 p.2) more) (r.foldl (fun acc p => putK acc p.1 p.2) (putK la e.1 e.2))
    rw [h1]
    exact RepP.merge inj h3 (ha.put inj e.1 h2)
theorem KT.merge {H : Hp} : ∀ {lm : List (List Key × V)} {xm : List (List Key × Addr × Value)} {la : List (List Key × V)} {xa : List (List Key × Addr × Value)}, KT H lm xm → KT H la xa → KT H (mergeT la lm) (storedAllH xa xm) := by
  intro lm xm la xa h
  unfold KT at h
  induction h generalizing la xa with
  | nil => exact fun ha => ha
  | @cons p x ps xs h t ih =>
    intro ha
    obtain ⟨k, v⟩ := p
    obtain ⟨k', b, u⟩ := x
    obtain ⟨h1, h2, h3⟩ := h
    simp only at h1 h2 h3
    subst h1
    exact ih (KT.put ha k (b := b) h2 h3)
section
variable {X : Cx} {pins : List (Addr × Obj)} {σ : L2.St} {H : Hp} {s : Shared}
theorem pairs_lay (I : Inv X pins σ H s) : ∀ {xs : List U} {kvs : List (U × U)} {vs : List V} {its : List Value}, RepL X.K H xs vs → Vals vs its → pairsU xs = some kvs → (∀ p ∈ kvs, isKey true p.1 = true) →
    ∃ (l : List (List Key × V)) (ps : List (List Key × Addr × Value)), KT H l ps ∧ RepP X.K H keysU kvs l ∧ its.length = ps.length ∧ ∀ (j : Nat) (k v : Value), (ps.map fun x => (Value.ref x.2.1, x.2.2))[j]? = some (k, v) → ∃ T : Addr, its[j]? = some (Value.ref T) ∧ PairAt s.heap T k v
  | [], kvs, vs, its, rl, rv, h, _ => by
    simp only [RepL] at rl
    subst rl
    cases rv
    cases h
    exact ⟨[], [], .nil, RepP.nil, rfl, fun j k v e => by simp at e⟩
  | x :: xs, kvs, vs, its, rl, rv, h, hk => by
    unfold pairsU at h
    simp only [RepL] at rl
    obtain ⟨w, r, rfl, r1, r2⟩ := rl
    split at h
    · rename_i k v ps0 e1 e2
      cases h
      cases rv with
      | cons ra rb =>
        rename_i iv its
        obtain ⟨l, ps, q1, q2, q3, q4⟩ := pairs_lay I r2 rb e2 fun p hp => hk p (List.mem_cons_of_mem _ hp)
        have hk0 := hk (k, v) (List.mem_cons_self ..)
        cases k with
        | kt ks =>
          obtain ⟨ks', rfl⟩ := flatKs_key (show ks.all flatK = true from hk0)
          obtain ⟨T, ws, rfl, st, rw'⟩ := seqT_of e1 r1
          cases ra
          obtain ⟨y, z, rfl, ry, rz⟩ := rw'.two_inv
          simp only [Rep] at ry
          obtain ⟨b, bs, rfl, hb, rbs⟩ := ry
          rw [repL_keys rbs] at hb
          obtain ⟨tits, trv, tp, _⟩ := I.tuple st
          cases trv with
          | cons t1 t2 =>
            rename_i v1 l1
            cases t2 with
            | cons t3 t4 =>
              rename_i v2 l2
              cases t4
              cases t1
              refine ⟨(ks', z) :: l, (ks', b, v2) :: ps, .cons ⟨rfl, hb, t3⟩ q1, RepP.cons (p := (keysU ks', v)) (e := (ks', z)) rfl rz q2, by simp [q3], fun j k v e => ?_⟩
              cases j with
              | zero =>
                simp only [List.map_cons, List.getElem?_cons_zero] at e
                cases e
                exact ⟨T, rfl, .inl tp⟩
              | succ j =>
                simp only [List.map_cons, List.getElem?_cons_succ] at e
                obtain ⟨T', e3, e4⟩ := q4 j k v e
                exact ⟨T', by simpa using e3, e4⟩
        | _ => cases hk0
    · cases h
theorem call_dictT (hc : X.calm = true) (hu : X.A.units + 64 < cLine) : CallR X (.type "dict") (fun xs H Q => ∃ a us kvs vs, xs = [.ref a] ∧ SqL X.K H a vs ∧ RepL X.K H us vs ∧ pairsU us = some kvs ∧ (∀ p ∈ kvs, isKey true p.1 = true) ∧
    ∀ p l, H p = none → RepP X.K H keysU (mergeU [] kvs) l → Q (.ref p) (upd H p (.dT l))) := by
  intro pins s σ H xs uu Q I r h
  obtain ⟨a, us, kvs, vs, rfl, hs, rl, hp, hk, q⟩ := h
  obtain ⟨u, rfl, rx⟩ := vals1 r
  cases rx
  obtain ⟨its, rv, pl, hz⟩ := I.list hs
  obtain ⟨l, ps, q1, q2, q3, q4⟩ := pairs_lay I rl rv hp hk
  obtain ⟨o, n, ho, hcl, hd, hdat⟩ := pl
  have hlen : ps.length ≤ sizeLine := by rw [← q3, ← rv.length]; exact hz
  let Ts : Nat → Addr := fun j => match its[j]? with
    | some (.ref T) => T
    | _ => 0
  have pi : PairItems s.heap its.toArray Ts (ps.map fun x => (Value.ref x.2.1, x.2.2)) := by
    refine ⟨by simp [q3], fun j k v e => ?_⟩
    obtain ⟨T, e1, e2⟩ := q4 j k v e
    have eT : Ts j = T := by show (match its[j]? with | some (.ref T) => T | _ => 0) = T; rw [e1]
    rw [eT]
    exact ⟨by simpa using e1, e2⟩
  have his : ∀ x ∈ ps, (tupleKind (mixKind X.prog X.w)).is s.heap x.1 x.2.1 := by
    have all : ∀ {l : List (List Key × V)} {m : List (List Key × Addr × Value)}, KT H l m → ∀ x ∈ m, (tupleKind (mixKind X.prog X.w)).is s.heap x.1 x.2.1 := by
      intro l m q
      induction q with
      | nil => intro x hx; exact nomatch hx
      | @cons p q ps qs hq t ih =>
        intro x hx
        rcases List.mem_cons.mp hx with e | hx
        · subst e
          exact key_of I.hok (by rw [← hq.1]; exact hq.2.1)
        · exact ih x hx
    exact all q1
  refine call_dict_pairsH (knd := tupleKind (mixKind X.prog X.w)) (ps := ps) (PairArg.list a its.toArray Ts (ps.map fun x => (Value.ref x.2.1, x.2.2))) (I.ok.hd hc) (tupleKind_room_in1 (A := X.A.in1) (by show X.A.units + 1 + 1 < cLine; omega)) ⟨⟨o, n, ho, hcl, hd, hdat⟩, pi⟩ ⟨by simp, fun i key v e => ?_⟩ (fun h' hk' x hx => ?_) (by simpa using hlen) fun h' tk hd' hk' => ?_
  · have e' : (ps.map fun x => (Value.ref x.2.1, x.2.2))[i]? = some (key, v) := e
    rw [List.getElem?_map] at e'
    cases ex : ps[i]? with
    | none => rw [ex] at e'; cases e'
    | some x =>
      rw [ex] at e'
      cases e'
      exact ⟨x.1, x.2.1, rfl, rfl⟩
  · obtain ⟨o', items, n', ho', h2, h3, h4⟩ := his x hx
    exact ⟨o', items, n', hk' _ _ (Nat.ne_of_lt (Heap.lt_size ho')) (fun z => nomatch z) ho', h2, h3, h4⟩
  · have hm : (s.heap.objs.size == sysModules) = false := beq_eq_false_iff_ne.mpr (Nat.ne_of_gt I.big)
    have lk : l.length = ps.length := Paired.length q1
    have hl2 : (mergeT [] l).length ≤ sizeLine := by
      have := mergeT_len l []
      simp at this
      omega
    obtain ⟨o2, es, ep, hq, h2, h3, h4, _, h5⟩ := hd'
    have km := (KT.merge q1 (H := H) (la := []) (xa := []) .nil)
    exact ⟨.ref s.heap.objs.size, upd H s.heap.objs.size (.dT (mergeT [] l)), I.laid (t' := tk) (fun b o e => hk' b o (fun z => nomatch z) e) (Nat.le_refl _)
      (show ObjOk X.prog X.w _ _ _ (.dT (mergeT [] l)) from ⟨hl2, hm, storedAllH [] ps, km.keeps (fun c ys ec => by rw [upd_ne (ne_of_none ec I.fresh)]; exact ec), o2, es, ep, hq, h2, h3, h4, h5⟩), rfl,
      q _ _ (I.hok.fresh (Nat.le_refl _)) (q2.merge (fun _ _ => keysU_inj) RepP.nil)⟩
/-- the same, keys ints and texts -/
theorem pairs_layK {K : Frag} {H : Hp} : ∀ {xs : List U} {kvs : List (U × U)} {vs : List V}, RepL K H xs vs → pairsU xs = some kvs → (∀ p ∈ kvs, isKey false p.1 = true) →
    ∃ (l : List (Key × V)) (ps : List Addr), vs = ps.map V.ref ∧ Paired (fun p kv => SqT K H p [kV kv.1, kv.2]) ps l ∧ RepP K H keyU kvs l
  | [], kvs, vs, rl, h, _ => by
    simp only [RepL] at rl
    subst rl
    cases h
    exact ⟨[], [], rfl, .nil, RepP.nil⟩
  | x :: xs, kvs, vs, rl, h, hk => by
    unfold pairsU at h
    simp only [RepL] at rl
    obtain ⟨w, r, rfl, r1, r2⟩ := rl
    split at h
    · rename_i k v ps0 e1 e2
      cases h
      obtain ⟨l, ps, rfl, q2, q3⟩ := pairs_layK r2 e2 fun p hp => hk p (List.mem_cons_of_mem _ hp)
      obtain ⟨k', rfl⟩ := flatK_key (hk (k, v) (List.mem_cons_self ..))
      obtain ⟨T, ws, rfl, st, rw'⟩ := seqT_of e1 r1
      obtain ⟨y, z, rfl, ry, rz⟩ := rw'.two_inv
      have ey := rep_key ry
      subst ey
      exact ⟨(k', z) :: l, T :: ps, rfl, .cons st q2, RepP.cons (p := (keyU k', v)) (e := (k', z)) rfl rz q3⟩
    · cases h
/-- dict(..): of pairs (a list) -/
def rDict : RC' := fun us M q => one us fun u => ∃ xs kvs, seqL M u = some xs ∧ pairsU xs = some kvs ∧ ∃ tk, (∀ p ∈ kvs, isKey tk p.1 = true) ∧ ∀ p, M p = none → q (.ref p) (put M p (.dic tk false (mergeU [] kvs)))
theorem c_dict (hc : X.calm = true) (hu : X.A.units + 64 < cLine) : CallR X (.type "dict") (lowC X.K rDict) := callU (CallR.or (call_dictP hc) (call_dictT hc hu)) fun us xs H M q Q rr m h P => by
  obtain ⟨u, rfl, ys, kvs, e, hp, tk, hk, h⟩ := one_inv h
  obtain ⟨v, rfl, r⟩ := rr.one_inv
  obtain ⟨a, vs, rfl, s, r'⟩ := seqL_of m e r
  cases tk with
  | false =>
    obtain ⟨l, ps, rfl, q2, q3⟩ := pairs_layK r' hp hk
    refine .inl ⟨a, ps, l, rfl, s, q2, fun p hp => P _ _ (h p (m.fresh hp)) _ _ .r (m.new hp ⟨_, upd_same, ?_⟩) (.new hp)⟩
    exact (q3.merge (fun _ _ => keyU_inj) RepP.nil).keep (.new hp)
  | true => exact .inr ⟨a, ys, kvs, vs, rfl, s, r', hp, hk, fun p l hp rp => P _ _ (h p (m.fresh hp)) _ _ .r (m.new hp ⟨l, upd_same, rp.keep (.new hp)⟩) (.new hp)⟩
end
end L3

set_option Elab.async false
set_option linter.all false
set_option maxRecDepth 100000
set_option maxHeartbeats 4000000
namespace L3
open PySem PySem.Spec L2
open PyProof.Rows hiding St
/-! ### * -/
/-- a text n times -/
def repS (x : Str) (n : Nat) : Str := ⟨(List.replicate n x.cps.toList).flatten.toArray⟩
theorem foldl_app (a : Array Nat) : ∀ (n : Nat) (b : Array Nat), (List.replicate n a).foldl (· ++ ·) b = b ++ (List.replicate n a.toList).flatten.toArray
  | 0, b => by simp
  | n + 1, b => by
    rw [List.replicate_succ, List.foldl_cons, foldl_app a n, List.replicate_succ, List.flatten_cons]
    apply Array.toList_inj.mp
    simp
theorem repS_eq (x : Str) (n : Nat) : (⟨(List.replicate n x.cps).foldl (· ++ ·) #[]⟩ : Str) = repS x n := by
  unfold repS
  rw [foldl_app]
  simp
theorem repS_one (x : Str) : repS x 1 = x := by
  unfold repS
  cases x
  simp
theorem repS_zero (x : Str) : repS x 0 = PySem.Str.empty := rfl
theorem repS_empty {x : Str} (h : x.length = 0) (n : Nat) : repS x n = x := by
  have e : x.cps = #[] := Array.eq_empty_of_size_eq_zero h
  have : x = ⟨#[]⟩ := by cases x; simp at e; rw [e]
  subst this
  unfold repS
  congr 1
  induction n with
  | zero => rfl
  | succ n ih =>
    apply Array.toList_inj.mp
    simp
theorem repS_len (x : Str) (n : Nat) : (repS x n).length = n * x.length := by
  unfold repS PySem.Str.length
  simp
/-- a text times an int -/
theorem op_repS {X : Cx} : OpR X (binaryOp .Mult) (fun x y H Q => ∃ (z : Str) (k : Int), x = .str z ∧ y = .int k ∧ -1000000 ≤ k ∧ k ≤ 1000000 ∧ z.length * k.toNat ≤ 10000000 ∧ Q (.str (repS z k.toNat)) H) := by
  intro pins s σ H x y v u Q I rx ry h
  obtain ⟨z, k, rfl, rfl, h1, h2, h3, q⟩ := h
  obtain ⟨t, rfl⟩ := rx
  obtain ⟨t2, rfl⟩ := ry
  have hs : (sizeLine : Nat) = 16777216 := by decide
  refine P.mul_str (by rw [decide_eq_false (by omega), decide_eq_false (by omega)]; rfl) (fun hk hn => ?_) (fun hk hn => ?_) ?_
  · have hk1 : k ≠ 1 := by intro e; subst e; simp at hn
    have hz : z.length ≤ 10000000 := by
      have : z.length * 1 ≤ z.length * k.toNat := Nat.mul_le_mul_left _ (by omega)
      omega
    have : (10000000 : Int) ≤ (2 ^ 63 - 1) / k := by
      rw [Int.le_ediv_iff_mul_le (by omega)]
      omega
    omega
  · unfold Builtin.Str.tooLong
    exact decide_eq_false (by rw [hs]; omega)
  · by_cases hk : k < 1
    · rw [if_pos hk]
      have e : k.toNat = 0 := by omega
      rw [e, repS_zero] at q
      exact ⟨by decide, ⟨.str PySem.Str.empty, H, I.tok _, ⟨_, rfl⟩, q⟩⟩
    · rw [if_neg hk]
      by_cases hn : (k == 1 || z.length == 0) = true
      · rw [if_pos hn]
        have e : repS z k.toNat = z := by
          simp only [Bool.or_eq_true, beq_iff_eq] at hn
          rcases hn with hn | hn
          · rw [hn]; exact repS_one z
          · exact repS_empty hn _
        rw [e] at q
        exact ⟨.str z, H, I, ⟨_, rfl⟩, q⟩
      · rw [if_neg hn, repS_eq]
        exact ⟨by rw [repS_len, Nat.mul_comm]; omega, ⟨.str _, H, I.tok _, ⟨_, rfl⟩, q⟩⟩
def rMul' : R2' := fun x y M q => match x with
  | .str z => match y with
    | .int k => -1000000 ≤ k ∧ k ≤ 1000000 ∧ z.length * k.toNat ≤ 10000000 ∧ q (.str (repS z k.toNat)) M
    | _ => False
  | .int i => match y with
    | .int j => IntMulOk i j ∧ q (.int (i * j)) M
    | _ => False
  | .ref a => match y with
    | .int k => ∃ xs, M a = some (.lst xs) ∧ -(2 ^ 63) ≤ k ∧ k < 2 ^ 63 ∧ xs.length * k.toNat ≤ sizeLine ∧ newL (List.replicate k.toNat xs).flatten M q
    | _ => False
  | _ => False
theorem RepL.rep {K : Frag} {H : Hp} {us : List U} {vs : List V} (h : RepL K H us vs) : ∀ n, RepL K H (List.replicate n us).flatten (List.replicate n vs).flatten
  | 0 => .nil
  | n + 1 => by
    rw [List.replicate_succ, List.replicate_succ, List.flatten_cons, List.flatten_cons]
    exact h.app (RepL.rep h n)
section
variable {X : Cx} {pos p2 : Pos} {e o f : Expr} {te to tf : TE'}
theorem o_mul : OpR X (binaryOp .Mult) (lowR X.K rMul') := opU (op_repS.or (op_mulOk.or (OpR.fz op_rep))) fun u w x y H M q Q ru rw' m hq P => by
  cases u with
  | str z => cases w with
    | int k => exact .inl ⟨z, k, rstr ru, rint rw', hq.1, hq.2.1, hq.2.2.1, P.val hq.2.2.2 m .s⟩
    | _ => exact (show False from hq).elim
  | int i => cases w with
    | int j => exact .inr (.inl ⟨i, j, rint ru, rint rw', hq.1, P.val hq.2 m .i⟩)
    | _ => exact (show False from hq).elim
  | ref a => cases w with
    | int k =>
      obtain ⟨xs, e, h1, h2, h3, h⟩ := hq
      obtain ⟨vs, e1, r⟩ := m a _ e
      exact .inr (.inr ⟨a, k, vs, rref ru, rint rw', e1, h1, h2, by rw [← r.len]; exact h3, fun p hp => newL_ok m (r.rep k.toNat) h P hp⟩)
    | _ => exact (show False from hq).elim
  | _ => exact (show False from hq).elim
/-! ### in -/
def inQ (f : Bool → Bool) (xs : List U) (x : U) (M : Mp) (q : QK) : Prop := ∃ d ds, dM M x = some d ∧ dTs xs = some ds ∧ okD d ∧ okD (.list ds) ∧ q (.bl (f (ds.any fun z => PyData.eqv z d))) M
def rIn (f : Bool → Bool) : R2' := fun x y M q => match y with
  | .str z => ∃ c, x = .str ⟨#[c]⟩ ∧ q (.bl (f (decide (c ∈ z.cps.toList)))) M
  | .lst xs => inQ f xs x M q
  | .ref a => asL M a (fun xs => inQ f xs x M q) fun tk _ kvs => isKey tk x = true ∧ q (.bl (f (dlook kvs x).isSome)) M
  | _ => False
theorem op_inDict (hu : X.A.units + 1 < cLine) : OpR X (compareOp .In) (fun x y H Q => ∃ a o, y = .ref a ∧ DGet H a x o ∧ Q (.bl o.isSome) H) := by
  intro pins s σ H x y v u Q I rx ry h
  obtain ⟨a, o, rfl, g, q⟩ := h
  cases ry
  exact d_in hu I g rx fun s' I' => ⟨.bl _, H, I', rfl, q⟩
theorem op_notInDict (hu : X.A.units + 1 < cLine) : OpR X (compareOp .NotIn) (fun x y H Q => ∃ a o, y = .ref a ∧ DGet H a x o ∧ Q (.bl (!o.isSome)) H) := by
  intro pins s σ H x y v u Q I rx ry h
  obtain ⟨a, o, rfl, g, q⟩ := h
  cases ry
  exact d_notIn hu I g rx fun s' I' => ⟨.bl _, H, I', rfl, q⟩
theorem RepO.some_eq {K : Frag} {H : Hp} {u : Option U} {o : Option V} (h : RepO K H u o) : o.isSome = u.isSome := by
  cases u <;> cases o <;> first | rfl | exact (show False from h).elim
theorem low_in {f : Bool → Bool} {rD rS rT : R2} (hT : ∀ x y H Q c z, x = V.str ⟨#[c]⟩ → y = V.str z → Q (.bl (f (decide (c ∈ z.cps.toList)))) H → rT x y H Q) (hD : ∀ x y H Q a o, y = V.ref a → DGet H a x o → Q (.bl (f o.isSome)) H → rD x y H Q)
    (hS : ∀ x y H Q d ds, Dp X.K H x d → Dp X.K H y (.list ds) → SeqAt.shaped d = true → SeqAt.shaped (.list ds) = true → Q (.bl (f (ds.any fun z => PyData.eqv z d))) H → rS x y H Q) :
    ∀ u w x y H M q Q, Rep X.K H u x → Rep X.K H w y → RM X.K H M → rIn f u w M q → Post X.K H M q Q → rT x y H Q ∨ rD x y H Q ∨ rS x y H Q := by
  intro u w x y H M q Q ru rw' m h P
  have lst : ∀ {ys : List U}, seqL M w = some ys → inQ f ys u M q → rS x y H Q := fun {ys} e hq => by
    obtain ⟨d, ds, e1, e2, o1, o2, hq⟩ := hq
    obtain ⟨a, vs, rfl, s, r⟩ := seqL_of m e rw'
    exact hS _ _ _ _ d ds (dM_ok m e1 ru) (.lst s (dTs_ok e2 r)) o1 o2 (P.val hq m .b)
  cases w with
  | str z =>
    obtain ⟨c, rfl, hq⟩ := h
    exact .inl (hT _ _ _ _ c z (rstr ru) (rstr rw') (P.val hq m .b))
  | lst ys => exact .inr (.inr (lst rfl h))
  | ref a =>
    rcases asL_inv (show asL M a _ _ from h) with ⟨ys, e, hq⟩ | ⟨tk, lk, kvs, e, hk, hq⟩
    · exact .inr (.inr (lst (by show (match M a with | some (.lst xs) => some xs | _ => none) = some ys; rw [e]) hq))
    · obtain ⟨o, g, ro⟩ := dget_of m e hk ru
      exact .inr (.inl (hD _ _ _ _ a o (rref rw') g (by rw [ro.some_eq]; exact P.val hq m .b)))
  | _ => exact (show False from h).elim
theorem o_in (hu : X.A.units + 65 < cLine) : OpR X (compareOp .In) (lowR X.K (rIn id)) := opU (op_in_sign.or ((op_inDict (by omega)).or (op_inD hu)))
  (low_in (f := id) (fun x y H Q c z e1 e2 q => ⟨c, z, e1, e2, q⟩) (fun x y H Q a o e g q => ⟨a, o, e, g, q⟩) fun x y H Q d ds h1 h2 h3 h4 q => ⟨d, ds, h1, h2, h3, h4, q⟩)
theorem o_notIn (hu : X.A.units + 65 < cLine) : OpR X (compareOp .NotIn) (lowR X.K (rIn not)) := opU (op_notIn_sign.or ((op_notInDict (by omega)).or (op_notInD hu)))
  (low_in (f := not) (fun x y H Q c z e1 e2 q => ⟨c, z, e1, e2, q⟩) (fun x y H Q a o e g q => ⟨a, o, e, g, q⟩) fun x y H Q d ds h1 h2 h3 h4 q => ⟨d, ds, h1, h2, h3, h4, q⟩)
/-! ### d.get(k, x) -/
def eGet (td ty tx : TE') : TE' := fun z M q => td z M fun d M1 => ∃ a tk lk kvs, d = .ref a ∧ M1 a = some (.dic tk lk kvs) ∧ ty z M1 fun y M2 => tx z M2 fun x M3 => ∃ tk lk kvs, M3 a = some (.dic tk lk kvs) ∧ isKey tk y = true ∧ q ((dlook kvs y).getD x) M3
theorem qe_dget {apos cpos : Pos} {td ty tx : TE'} (hu : X.A.units + 1 < cLine) (ho : QE X o td) (he : QE X e ty) (hf : QE X f tx) (m : M2 X o "get" apos e f cpos := by exact ⟨rfl, rfl, rfl, rfl⟩) :
    QE X (.Call (.Attribute o "get" apos) [e, f] [] cpos) (eGet td ty tx) := imE (pe_dget2 hu ho he hf m) fun σ H Q ⟨z, M, q, rs, m, h, P⟩ =>
  ⟨z, M, _, rs, m, h, fun d M1 h1 v H1 r1 m1 k1 => by
    obtain ⟨a, tk, lk, kvs, rfl, ea, h2⟩ := h1
    refine ⟨a, rref r1, ?_, z, M1, _, rs.keep k1.tk, m1, h2, fun y M2 h3 vy H2 ry m2 k2 => ⟨z, M2, _, (rs.keep k1.tk).keep k2.tk, m2, h3, fun x M3 h4 vx H3 rx m3 k3 => ?_⟩⟩
    · cases tk with
      | false => obtain ⟨l, hl, _⟩ := m1 a _ ea; exact .inl ⟨l, hl.rd⟩
      | true => obtain ⟨l, hl, _⟩ := m1 a _ ea; exact .inr ⟨l, hl.rd⟩
    · obtain ⟨tk', lk', kvs', eb, hk, hq⟩ := h4
      obtain ⟨o, g, ro⟩ := dget_of m3 eb hk (ry.keep k3.tk)
      refine ⟨o, g, ?_⟩
      have P3 := P.step ((k1.trans k2).trans k3)
      cases e1 : dlook kvs' y with
      | none =>
        rw [e1] at ro hq
        rw [ro.none]
        exact P3.val hq m3 rx
      | some w =>
        rw [e1] at ro hq
        obtain ⟨v, rfl, rv⟩ := ro.get
        exact P3.val hq m3 rv⟩
/-! ### slices -/
def cutU (xs : List U) (lo hi : Option Int) : List U := (xs.drop (HT.sIx xs.length 0 lo)).take (HT.sIx xs.length xs.length hi - HT.sIx xs.length 0 lo)
theorem RepL.cut {K : Frag} {H : Hp} {us : List U} {vs : List V} (r : RepL K H us vs) (lo hi : Option Int) : RepL K H (cutU us lo hi) (cutV vs lo hi) := by
  unfold cutU cutV
  rw [r.len]
  exact (r.drop _).take _
abbrev TO' := SL → Mp → (Option Int → Mp → Prop) → Prop
def PostO (K : Frag) (H : Hp) (M : Mp) (q : Option Int → Mp → Prop) (Q : Option Int → Hp → Prop) : Prop := ∀ o M', q o M' → ∀ H', RM K H' M' → SK H M H' M' → Q o H'
def lowO (K : Frag) (t : TO') : TO := fun σ H Q => ∃ z M q, RS K H σ z ∧ RM K H M ∧ t z M q ∧ PostO K H M q Q
def QO (X : Cx) (e : Option Expr) (t : TO') : Prop := PO X e (lowO X.K t)
theorem imO {e : Option Expr} {t t' : TO} (h : PO X e t) (k : ∀ σ H Q, t' σ H Q → t σ H Q) : PO X e t' := ⟨fun pins s σ H Q I w => h.run pins s σ H Q I (k σ H Q w)⟩
def oNo : TO' := fun _ M q => q none M
def oPart (t : TE') : TO' := fun z M q => t z M fun x M1 => asI x fun i => q (some i) M1
theorem qo_none : QO X none oNo := imO po_none fun σ H Q ⟨z, M, q, rs, m, h, P⟩ => P _ _ h H m (.refl H M)
theorem qo_some (h : QE X e te) : QO X (some e) (oPart te) := imO (po_some h) fun σ H Q ⟨z, M, q, rs, m, h, P⟩ =>
  ⟨z, M, _, rs, m, h, fun x M1 h1 v H1 r1 m1 k1 => by
    obtain ⟨i, rfl, h2⟩ := asI_inv h1
    exact ⟨i, rint r1, P _ _ h2 H1 m1 k1⟩⟩
/-- a slice: of a list (a new one), of a tuple, of a text -/
def eSl (te : TE') (tl th : TO') : TE' := fun z M q => te z M fun x M1 => tl z M1 fun l M2 => th z M2 fun h M3 => match x with
  | .str s => s.length ≤ sizeLine ∧ q (.str (Txt.slice s l h)) M3
  | x => match seqT x with
    | some xs => q (.tup (cutU xs l h)) M3 ∨ (¬ (HT.sIx xs.length 0 l = 0 ∧ HT.sIx xs.length xs.length h = xs.length) ∧ q (.kt (cutU xs l h)) M3)
    | none => ∃ xs, seqL M3 x = some xs ∧ newL (cutU xs l h) M3 q
theorem slFz {r : V → Option Int → Option Int → Hp → VK → Prop} (h : SlR X r) : SlR X (fun x lo hi H Q => r x lo hi H (L3.fz Q)) := by
  intro pins s σ H x v vl vu lo hi sl Q I rx hs pl pu q
  obtain ⟨T, id, h1, h2, h3⟩ := h pins s σ H x v vl vu lo hi sl (L3.fz Q) I rx hs pl pu q
  exact ⟨T, id, h1, h2, thn h3 fun _ _ e => EP.fz e⟩
theorem qe_slice {lo hi : Option Expr} {tl th : TO'} (he : QE X e te) (hl : QO X lo tl) (hh : QO X hi th) : QE X (.Subscript e (.Slice lo hi none p2) pos) (eSl te tl th) :=
  imE (pe_slice (SlR.or (slFz sl_list) (SlR.or sl_tupA C8.sl_txt)) he hl hh) fun σ H Q ⟨z, M, q, rs, m, h, P⟩ =>
  ⟨z, M, _, rs, m, h, fun x M1 h1 v H1 r1 m1 k1 => ⟨z, M1, _, rs.keep k1.tk, m1, h1, fun l M2 h2 H2 m2 k2 => ⟨z, M2, _, (rs.keep k1.tk).keep k2.tk, m2, h2, fun u M3 h3 H3 m3 k3 => by
    have r3 := (r1.keep k2.tk).keep k3.tk
    have P3 := P.step ((k1.trans k2).trans k3)
    have lst : (∃ xs, seqL M3 x = some xs ∧ newL (cutU xs l u) M3 q) → rSlL X.K v l u H3 (fz Q) := fun ⟨xs, e, hq⟩ => by
      obtain ⟨a, vs, rfl, s, r⟩ := seqL_of m3 e r3
      exact ⟨a, vs, rfl, s, fun p hp => newL_ok m3 (r.cut l u) hq P3 hp⟩
    have tup : ∀ {xs : List U}, seqT x = some xs → (q (.tup (cutU xs l u)) M3 ∨ (¬ (HT.sIx xs.length 0 l = 0 ∧ HT.sIx xs.length xs.length u = xs.length) ∧ q (.kt (cutU xs l u)) M3)) → rSlA X.K v l u H3 Q := fun {xs} e hq => by
      obtain ⟨a, vs, rfl, s, r⟩ := seqT_of e r3
      refine ⟨a, vs, rfl, s, fun hw => ?_, fun hw p hp => ?_⟩
      · have ec : cutU xs l u = xs := by
          unfold cutU
          rw [← r.len] at hw
          rw [hw.1, hw.2]
          simp
        rcases hq with hq | ⟨hn, hq⟩
        · refine P3.val hq m3 ?_
          rw [ec]
          simp only [Rep]
          exact ⟨a, vs, rfl, s, r⟩
        · rw [← r.len] at hw
          exact absurd hw hn
      · rcases hq with hq | ⟨hn, hq⟩
        · exact newT_ok m3 (r.cut l u) (.inl hq) P3 hp
        · exact newT_ok m3 (r.cut l u) (.inr hq) P3 hp
    cases x with
    | str s => exact .inr (.inr ⟨s, rstr r3, h3.1, P3.val h3.2 m3 .s⟩)
    | tup xs => exact .inr (.inl (tup rfl h3))
    | kt xs => exact .inr (.inl (tup rfl h3))
    | _ => exact .inl (lst h3)⟩⟩⟩
/-- xs[::-1] -/
def eRev (te : TE') : TE' := fun z M q => te z M fun x M1 => ∃ xs, seqL M1 x = some xs ∧ newL xs.reverse M1 q
theorem qe_rev {k : Nat} {p1 p2 p3 : Pos} (he : QE X e te) : QE X (.Subscript e (.Slice none none (some (.UnaryOp .USub (.Constant (.int 1) k p1) p2)) p3) pos) (eRev te) := imE (PE.fz (t := tRevL X.K (lowE X.K te)) (pe_revL he)) fun σ H Q ⟨z, M, q, rs, m, h, P⟩ =>
  ⟨z, M, _, rs, m, h, fun x M1 h1 v H1 r1 m1 k1 => by
    obtain ⟨xs, e, hq⟩ := h1
    obtain ⟨a, vs, rfl, s, r⟩ := seqL_of m1 e r1
    exact ⟨a, vs, rfl, s, fun p hp => newL_ok m1 r.rev hq (P.step k1) hp⟩⟩
end
end L3

set_option Elab.async false
set_option linter.all false
set_option maxRecDepth 100000
set_option maxHeartbeats 4000000
namespace L3
open PySem PySem.Spec L2
open PyProof.Rows hiding St
/-! ### the law itself, from its promise over trees -/
/-- the script as a tree -/
def scriptU (ns : List Int) : U := .lst (ns.map U.int)
theorem repL_int {K : Frag} {H : Hp} : ∀ ns : List Int, RepL K H (ns.map U.int) (ns.map V.int)
  | [] => .nil
  | _ :: ns => .cons .i (repL_int ns)
def noM : Mp := fun _ => none
section
variable {P : Program} {w : World} {K : Frag} {mg mb : Str → Option Value} {k : Nat} {fa a : Addr} {fd : FuncData} {x : Str} {sp : Sp'} {s₁ : Shared} {vs : List Value} {ns : List Int}
/-- one heap of trees, of which the script is all -/
theorem law_from (H : Hp) (only : ∀ b u, H b = some u → b = a ∧ u = .frz { cls := .type "list", data := .seq vs.toArray } (.lst (ns.map V.int)))
    (kin : K.In s₁.heap) (glob : s₁.heap.Ns mainGlobals mg) (blt : s₁.heap.Ns builtinsNs mb) (blt2 : ∀ x : Str, x ≠ "__name__" → mb x = bootBuiltins x) (lim : s₁.heap.NoLimit) (nog : s₁.gens = #[])
    (obj : s₁.heap.get? a = some { cls := .type "list", data := .seq vs.toArray }) (hi : IntsAre vs ns) (hl : ns.length ≤ sizeLine) (room : Room k callerA)
    (F : ∀ base : Heap, K.In base → base.Ns mainGlobals mg → FnG P w K mg base k fa fd [x] (lowSp K sp)) (bind : ∀ (s : Shared) (u : Value), BindsTo s fd ⟨[u], []⟩ [(x, u)])
    (apart : ∀ b u, H b = some u → K.lookup b = none) (fz : FzL K H a (ns.map V.int)) (hsp : sp [scriptU ns] noM (fun u _ => u = .bl true) (fun _ _ _ => False)) :
    codeAny (model P w) callerA (.call (.ref fa) ⟨[.ref a], []⟩) (fun r s' => r = .ok (.ret (.bool true)) ∧ OldK s₁.heap s'.heap ∧ s'.os = s₁.os ∧ AllBare s'.gens) s₁ := by
  -- what isn't tracked stands in the base
  have stays : ∀ {b : Addr} {o : Obj}, s₁.heap.get? b = some o → (∀ u, H b = some u → False) → (hidT s₁.heap H).get? b = some o := by
    intro b o e nn
    refine hidT_get e ?_
    cases q : H b with
    | none => rfl
    | some u => exact (nn u q).elim
  have dictly : ∀ {b : Addr} {m : Str → Option Value}, s₁.heap.Ns b m → (hidT s₁.heap H).Ns b m := by
    rintro b m ⟨o, es, ep, e, d, r⟩
    refine ⟨o, es, ep, stays e fun u q => ?_, d, r⟩
    have h1 := (only b u q).1
    rw [h1, obj] at e
    cases e
    exact nomatch (show Data.seq vs.toArray _ = Data.dict es ep from d)
  have kinB : K.In (hidT s₁.heap H) := by
    intro b o e
    refine stays (kin b o e) fun u q => ?_
    rw [apart b u q] at e
    cases e
  have hokH : HOk P w H s₁.heap := by
    intro b u q
    obtain ⟨rfl, rfl⟩ := only b u q
    exact ⟨obj, by rw [List.length_map]; exact hl, vs, _, vals_ints hi, obj⟩
  have env : Env0 P w K mg (hidT s₁.heap H) callerA [] s₁ H :=
    { frames := rfl, mod := { kin := kinB, glob := dictly glob, blt := ⟨mb, dictly blt, blt2⟩, nolimit := by obtain ⟨mc, h1, h2⟩ := lim; exact ⟨mc, dictly h1, h2⟩ },
      bs := fun b o e => of_hidT e, bsz := Nat.le_of_eq (hidT_size _ _), funs := trivial, frf := fun b hb => (nomatch hb), hok := hokH, bare := .of_eq nog }
  have vals : Vals [V.ref a] [Value.ref a] := .cons rfl .nil
  have start : lowSp K sp [V.ref a] H (fun v _ => v = .bl true) (fun _ _ _ => False) := by
    refine ⟨[scriptU ns], noM, _, _, .cons ?_ .nil, (fun b o e => by cases (show (none : Option MO) = some o from e)), hsp, ?_, ?_⟩
    · unfold scriptU
      simp only [Rep]
      exact ⟨a, _, rfl, fz, repL_int ns⟩
    · intro u M' eu v H' r _ _
      subst eu
      exact rbl r
    · intro C fs M' f
      exact f.elim
  have ran := (F _ kinB (dictly glob)).run callerA [] s₁ H ⟨[.ref a], []⟩ [.ref a] [.ref a] _ _ room rfl env (bind s₁ (.ref a)) vals start
  refine codeAny_mono ran fun r s' h => ?_
  match r, h with
  | .error e, h =>
    obtain ⟨_, _, _, _, _, _, _, _, _, _, _, _, f⟩ := h
    exact f.elim
  | .ok .next, h => exact False.elim h
  | .ok .brk, h => exact False.elim h
  | .ok .cont, h => exact False.elim h
  | .ok (.ret u), h =>
    obtain ⟨v, H', os, bare, un, hok', rv, q⟩ := h
    have q' : v = .bl true := q
    subst q'
    have eu : u = Value.bool true := rv
    subst eu
    refine ⟨rfl, OldK.of_keep fun b o e => ?_, os, bare⟩
    cases q : H b with
    | none => exact un.keep b o e q (fun z => nomatch (show b ∈ ([] : List Addr) from z)) (fun z => nomatch z)
    | some u =>
      obtain ⟨rfl, rfl⟩ := only b u q
      have e2 := (hok' b _ (un.frzs b _ _ q)).1
      rw [obj] at e
      cases e
      exact e2
end
end L3

set_option Elab.async false
set_option linter.all false
set_option maxRecDepth 100000
set_option maxHeartbeats 4000000
namespace L3
open PySem PySem.Spec L2
open PyProof.Rows hiding St
/-! ### defs by where they stand -/
def noW : WX' := fun _ _ _ _ => False
theorem tk_no {X : Cx} : Takes X (lowW X.K noW) := by
  intro u s' hx
  obtain ⟨a, B, sI, pins, σ, H', cls, d, eu, I, nb, up, sky, na, os, ag, C, fs, z, M', xr, _, m', w'⟩ := hx
  exact w'.elim
structure Def' (P : Program) (w : World) (K : Frag) (mg : Str → Option Value) (base : Heap) (k : Nat) (f : Addr) (ps : List Str) (sp : Sp') : Prop where
  ex : ∃ fd, Binds K fd ps [] ∧ FnG P w K mg base k f fd ps (lowSp K sp)
  kp : PySem.W.keepIn K (.ref f) = true
theorem Def'.none {P : Program} {w : World} {K : Frag} {mg : Str → Option Value} {base : Heap} {k : Nat} {f : Addr} {ps : List Str} {fd : FuncData} (b : Binds K fd ps []) (kp : PySem.W.keepIn K (.ref f) = true) : Def' P w K mg base k f ps (fun _ _ _ _ => False) :=
  ⟨⟨fd, b, ⟨fun vs H Q E ⟨us, M, q, e, _, _, h, _⟩ => h.elim, fun A outer s H args us vs Q E _ _ _ _ _ ⟨_, _, _, _, _, _, h, _⟩ => h.elim⟩⟩, kp⟩
theorem fun_of {K : Frag} {x qual : Str} {st : Stmt} {f : Addr} {fd : FuncData} (F : FunD K x qual (defArgs st) (defBody st) (defScope st) [] [] f fd) : Fun K x qual st f fd := by
  obtain ⟨⟨oc, od, dV, kV, doc, pm, an, cdv, ct, osl, rfl, lk, hcd, hD, _⟩, kp⟩ := F
  rcases hD with ⟨_, rfl⟩ | ⟨e, _⟩
  · exact ⟨⟨oc, od, kV, doc, pm, an, cdv, ct, osl, rfl, lk, hcd⟩, kp⟩
  · exact absurd rfl e
theorem room65 {k : Nat} {A : Around} (r : Room k A) : A.units + 65 < cLine := by have := r.un; omega
section
variable {X : Cx} {k n : Nat} {f C : Addr} {ps : List Str} {x m : Str} {p pos apos : Pos} {e o : Expr} {es : List Expr} {sp : Sp'} {W : WX'} {ta : TA'} {to : TE'}
theorem qd_call (D : Def' X.prog X.w X.K X.mg X.base k f ps sp) (hr : Room n X.A) (hg : X.A.guards = some []) (tk : Takes X (lowW X.K W)) (hm : X.mg x = some (.ref f)) (ha : QA X (e :: es) ta) (hk : k ≤ n := by first | decide | omega) (hgl : Gl X x := by rfl) (hdb : (x == ("__debug__" : Str)) = false := by decide)
    (he : starEach (e :: es) X.env = (false, eval e X.env) :: starEach es X.env := by rfl) (hpl : (backTo pos (starEach es X.env)).any (·.1) = false := by rfl) : QE X (.Call (.Name x p) (e :: es) [] pos) (eCall sp W ta) := by
  obtain ⟨fd, b, F⟩ := D.ex
  exact qe_call F (hr.mono hk) hg tk hm D.kp b ha hgl hdb he hpl
theorem qd_call0 (D : Def' X.prog X.w X.K X.mg X.base k f ps sp) (hr : Room n X.A) (hg : X.A.guards = some []) (tk : Takes X (lowW X.K W)) (hm : X.mg x = some (.ref f)) (hk : k ≤ n := by first | decide | omega) (hgl : Gl X x := by rfl) (hdb : (x == ("__debug__" : Str)) = false := by decide) :
    QE X (.Call (.Name x p) [] [] pos) (eCall sp W eNil) := by
  obtain ⟨fd, b, F⟩ := D.ex
  exact qe_call0 F (hr.mono hk) hg tk hm D.kp b hgl hdb
theorem qd_meth {pl : Sem Bool} (D : Def' X.prog X.w X.K X.mg X.base k f ps sp) (hr : Room n X.A) (hg : X.A.guards = some []) (tk : Takes X (lowW X.K W)) (c : Cls X.K C) (hm : Meth X.K C m f) (ho : QE X o to) (ha : QA X (e :: es) ta) (hk : k ≤ n := by first | decide | omega)
    (hst : starEach (e :: es) X.env = (false, eval e X.env) :: starEach es X.env := by rfl) (hpl : (backTo pos (starEach es X.env)).any (·.1) = false := by rfl)
    (ht : eval (.Call (.Attribute o m apos) (e :: es) [] pos) X.env = (do
      let ov ← eval o X.env
      standAt apos.atName
      let (f, first) ← holding [ov] (getMethod ov m pl)
      callWith pos f first (backTo pos (starEach (e :: es) X.env)) (backToKw pos (keywordEach [] X.env))) := by rfl) : QE X (.Call (.Attribute o m apos) (e :: es) [] pos) (eMeth C m sp W to ta) := by
  obtain ⟨fd, b, F⟩ := D.ex
  exact qe_meth ho c hm F (hr.mono hk) hg tk b ha hst hpl ht
theorem qd_make (D : Def' X.prog X.w X.K X.mg X.base k f ps sp) (hr : Room n X.A) (hg : X.A.guards = some []) (tk : Takes X (lowW X.K W)) (hm : X.mg x = some (.ref C)) (mk : Mk X.K C f) (ha : QA X (e :: es) ta) (hk : k + 1 ≤ n := by first | decide | omega) (hgl : Gl X x := by rfl) (hdb : (x == ("__debug__" : Str)) = false := by decide)
    (he : starEach (e :: es) X.env = (false, eval e X.env) :: starEach es X.env := by rfl) (hpl : (backTo pos (starEach es X.env)).any (·.1) = false := by rfl) : QE X (.Call (.Name x p) (e :: es) [] pos) (eMake C sp W ta) := by
  obtain ⟨fd, b, F⟩ := D.ex
  exact qe_make mk F (hr.mono hk) hg tk hm b ha hgl hdb he hpl
end
def sNever : TS' := fun _ _ _ => False
theorem qs_never {X : Cx} {st : Stmt} : QS X st sNever := imS ps_never fun D σ H ⟨z, M, d, rs, m, h, P⟩ => h.elim
/-! ### the goal behind the head -/
theorem walk_treeE {l : PySem.W.OpenLaw} {n k : Nat} {q : Program} {loose : List Str} {XP : (Str → Option Value) → Heap → Prop} {YP : World → Heap → Prop} {d : DefRec} {x : Str}
    (hn : l.most = some n) (hn2 : n ≤ sizeLine) (hdf : d.params.defaults = []) (room : Room k callerA)
    (F : ∀ (w : World) (mg : Str → Option Value) (fa : Addr) (h : Heap), YP w h → h.Ns mainGlobals mg → mg d.name = some (.ref fa) →
      ∃ (K : Frag) (fd : FuncData) (sp : Sp'), K.In h ∧ (∀ (s : Shared) (u : Value), BindsTo s fd ⟨[u], []⟩ [(x, u)]) ∧ (∀ ns : List Int, ns.length ≤ n → sp [scriptU ns] noM (fun u _ => u = .bl true) (fun _ _ _ => False)) ∧
        ∀ base : Heap, K.In base → base.Ns mainGlobals mg → FnG l.prog w K mg base k fa fd [x] (lowSp K sp)) :
    PySem.W.WalkO q loose XP YP l.row.toRowW d [] (fun f vs => PySem.call f vs) := by
  refine Att.attach_call hn hdf ?_
  intro w s₀ s₁ mg mb fa o pm cd doc a vs ns G Y _ _ _ hmg obj its0 len nog
  obtain ⟨K, fd, sp, kin, bind, hsp, hF⟩ := F w mg fa _ Y G.T.g hmg
  have hl : ns.length ≤ sizeLine := Nat.le_trans len hn2
  cases lk : K.lookup a with
  | none =>
    refine law_from (fun b => if b = a then some (.frz { cls := .type "list", data := .seq vs.toArray } (.lst (ns.map V.int))) else none) (fun b u e => ?_) kin G.T.g G.T.b G.T.builtins G.T.nolimit nog obj its0 hl room hF bind (fun b u e => ?_) (.inl ⟨_, if_pos rfl⟩) (hsp ns len)
    · by_cases hb : b = a
      · rw [if_pos hb] at e
        exact ⟨hb, (Option.some.inj e).symm⟩
      · rw [if_neg hb] at e
        cases e
    · by_cases hb : b = a
      · rw [hb]; exact lk
      · rw [if_neg hb] at e
        cases e
  | some ob =>
    have same := (kin a ob lk).symm.trans obj
    cases same
    have rv := vals_ints its0
    refine law_from (fun _ => none) (fun _ _ e => nomatch e) kin G.T.g G.T.b G.T.builtins G.T.nolimit nog obj its0 hl room hF bind (fun _ _ e => nomatch e) (.inr ⟨_, vs.toArray, _, lk, rfl, rfl, rfl, ?_, by simpa using rv⟩) (hsp ns len)
    rw [List.size_toArray, its0.length]
    exact hl
end L3

set_option Elab.async false
set_option linter.all false
set_option maxRecDepth 100000
set_option maxHeartbeats 4000000
namespace L3
open PySem PySem.Spec L2
open PyProof.Rows hiding St
/-! ### built-in names -/
theorem bb_len : bootBuiltins "len" = some (.builtin "len") := by decide +kernel
theorem bb_isinstance : bootBuiltins "isinstance" = some (.builtin "isinstance") := by decide +kernel
theorem bb_min : bootBuiltins "min" = some (.builtin "min") := by decide +kernel
theorem bb_max : bootBuiltins "max" = some (.builtin "max") := by decide +kernel
theorem bb_sum : bootBuiltins "sum" = some (.builtin "sum") := by decide +kernel
theorem bb_abs : bootBuiltins "abs" = some (.builtin "abs") := by decide +kernel
theorem bb_any : bootBuiltins "any" = some (.builtin "any") := by decide +kernel
theorem bb_all : bootBuiltins "all" = some (.builtin "all") := by decide +kernel
theorem bb_sorted : bootBuiltins "sorted" = some (.builtin "sorted") := by decide +kernel
theorem bb_repr : bootBuiltins "repr" = some (.builtin "repr") := by decide +kernel
theorem bb_str : bootBuiltins "str" = some (.type "str") := by decide +kernel
theorem bb_int : bootBuiltins "int" = some (.type "int") := by decide +kernel
theorem bb_bool : bootBuiltins "bool" = some (.type "bool") := by decide +kernel
theorem bb_list : bootBuiltins "list" = some (.type "list") := by decide +kernel
theorem bb_tuple : bootBuiltins "tuple" = some (.type "tuple") := by decide +kernel
theorem bb_dict : bootBuiltins "dict" = some (.type "dict") := by decide +kernel
theorem bb_set : bootBuiltins "set" = some (.type "set") := by decide +kernel
section
variable {X : Cx} {x : Str} {p pos apos cpos : Pos} {o e f : Expr} {es : List Expr} {to te : TE'} {ta : TA'}
/-! ### a module's constants -/
theorem qe_gint {i : Int} (hm : ∃ t, X.mg x = some (.int i t)) (hg : Gl X x := by rfl) (hd : (x == ("__debug__" : Str)) = false := by decide) : QE X (.Name x pos) (eC (.int i)) := by
  obtain ⟨t, hm⟩ := hm
  exact qe_cst (pe_glob (v := .int i) hg hm ⟨t, rfl⟩ hd) fun H => .i
theorem qe_gstr {i : Str} (hm : ∃ t, X.mg x = some (.str i t)) (hg : Gl X x := by rfl) (hd : (x == ("__debug__" : Str)) = false := by decide) : QE X (.Name x pos) (eC (.str i)) := by
  obtain ⟨t, hm⟩ := hm
  exact qe_cst (pe_glob (v := .str i) hg hm ⟨t, rfl⟩ hd) fun H => .s
theorem qe_gtup {a : Addr} {us : List U} (hm : X.mg x = some (.ref a)) (h : ∀ H, Rep X.K H (.tup us) (.ref a)) (hg : Gl X x := by rfl) (hd : (x == ("__debug__" : Str)) = false := by decide) : QE X (.Name x pos) (eC (.tup us)) :=
  qe_cst (pe_glob (v := .ref a) hg hm rfl hd) h
theorem rep_tupB {K : Frag} {x : Str} {ns : List Int} (h : He.tupB K x (ns.map He.Dv.int) = true) (H : Hp) : Rep K H (.tup (ns.map U.int)) (.ref (He.ga K x)) := by
  simp only [Rep]
  refine ⟨_, _, rfl, He.tupB_ok h H, ?_⟩
  rw [List.map_map]
  exact repL_int ns
/-! ### methods of built-in things, in short -/
theorem qm_append (ho : QE X o to) (ha : QE X e te) (hbase : attributeBase o "append" X.env (eval o X.env) = eval o X.env := by rfl)
    (hfew : ((backTo cpos (starEach [e] X.env)).all (fun x => !x.1) && (backToKw cpos (keywordEach [] X.env)).all (fun x => x.1.isSome) && decide (([e] : List Expr).length + ([] : List Keyword).length + (if ([] : List Keyword).isEmpty then 0 else 1) < 30)) = true := by rfl)
    (hline : (apos.endLine == cpos.line) = true := by rfl) (hs : starEach [e] X.env = (false, eval e X.env) :: starEach [] X.env := by rfl) (hplain : (backTo cpos (starEach [] X.env)).any (·.1) = false := by rfl) :
    QE X (.Call (.Attribute o "append" apos) [e] [] cpos) (eM isML rAppend to (eCons te eNil)) :=
  qe_bm PySem.F.plainAttrs_list PySem.F.slot_list_append PySem.F.type_list_append m_append isML_ty ho (qa_cons ha qa_nil hs) hbase hfew hline hs hplain
theorem qm_pop (ho : QE X o to) (hbase : attributeBase o "pop" X.env (eval o X.env) = eval o X.env := by rfl) (hline : (apos.endLine == cpos.line) = true := by rfl) :
    QE X (.Call (.Attribute o "pop" apos) [] [] cpos) (eM isML rPop to eNil) := qe_bm0 PySem.F.plainAttrs_list PySem.F.slot_list_pop PySem.F.type_list_pop m_pop isML_ty ho hbase hline
theorem qm_reverse (ho : QE X o to) (hbase : attributeBase o "reverse" X.env (eval o X.env) = eval o X.env := by rfl) (hline : (apos.endLine == cpos.line) = true := by rfl) :
    QE X (.Call (.Attribute o "reverse" apos) [] [] cpos) (eM isML rRev to eNil) := qe_bm0 PySem.F.plainAttrs_list PySem.F.slot_list_reverse PySem.F.type_list_reverse m_reverse isML_ty ho hbase hline
theorem qm_join (ho : QE X o to) (ha : QE X e te) (hbase : attributeBase o "join" X.env (eval o X.env) = eval o X.env := by rfl)
    (hfew : ((backTo cpos (starEach [e] X.env)).all (fun x => !x.1) && (backToKw cpos (keywordEach [] X.env)).all (fun x => x.1.isSome) && decide (([e] : List Expr).length + ([] : List Keyword).length + (if ([] : List Keyword).isEmpty then 0 else 1) < 30)) = true := by rfl)
    (hline : (apos.endLine == cpos.line) = true := by rfl) (hs : starEach [e] X.env = (false, eval e X.env) :: starEach [] X.env := by rfl) (hplain : (backTo cpos (starEach [] X.env)).any (·.1) = false := by rfl) :
    QE X (.Call (.Attribute o "join" apos) [e] [] cpos) (eM isS rJoin to (eCons te eNil)) :=
  qe_bm PySem.F.plainAttrs_str PySem.F.slot_str_join PySem.F.type_str_join m_join isS_ty ho (qa_cons ha qa_nil hs) hbase hfew hline hs hplain
/-! ### repr of a list, a tuple -/
def rRepr : RC' := fun us M q => one us fun u => ∃ d, dM M u = some d ∧ isSeq u = true ∧ d.showable = true ∧ d.hasDict = false ∧ d.depth ≤ 60 ∧ d.shown.length ≤ sizeLine ∧ q (.str d.shown) M
where isSeq : U → Bool
  | .tup _ => true
  | .kt _ => true
  | .lst _ => true
  | .ref _ => true
  | _ => false
theorem isSeq_ref {K : Frag} {H : Hp} {u : U} {v : V} (h : rRepr.isSeq u = true) (r : Rep K H u v) : ∃ a, v = .ref a := by
  cases u with
  | tup xs => simp only [Rep] at r; obtain ⟨a, _, h, _⟩ := r; exact ⟨a, h⟩
  | kt xs => simp only [Rep] at r; obtain ⟨a, _, h, _⟩ := r; exact ⟨a, h⟩
  | lst xs => simp only [Rep] at r; obtain ⟨a, _, h, _⟩ := r; exact ⟨a, h⟩
  | ref a => exact ⟨a, rref r⟩
  | _ => cases h
theorem call_reprD (hg : X.A.guards = some []) (hu : X.A.units + 64 < cLine) : CallR X (.builtin "repr") (fun xs H Q => ∃ a d, xs = [.ref a] ∧ Dp X.K H (.ref a) d ∧ d.showable = true ∧ d.hasDict = false ∧ d.depth ≤ 60 ∧ d.shown.length ≤ sizeLine ∧ Q (.str d.shown) H) := by
  intro pins s σ H xs uu Q I r h
  obtain ⟨a, d, rfl, hd, h1, h2, h3, h4, q⟩ := h
  obtain ⟨u, rfl, rx⟩ := vals1 r
  obtain ⟨as, rr⟩ := Dp.reads I d _ u hd rx
  cases rx
  exact repr_of_reads' rr h1 (fun z => by rw [h2] at z; cases z) hg (by omega) (fun _ _ e => e) (fun h' u tk hk => ⟨.str d.shown, H, I.kept hk, ⟨_, rfl⟩, q⟩) h4
theorem c_repr (hg : X.A.guards = some []) (hu : X.A.units + 64 < cLine) : CallR X (.builtin "repr") (lowC X.K rRepr) := callU (call_reprD hg hu) fun us xs H M q Q rr m h P => by
  obtain ⟨u, rfl, d, e, hs, h1, h2, h3, h4, h⟩ := one_inv h
  obtain ⟨v, rfl, r⟩ := rr.one_inv
  obtain ⟨a, rfl⟩ := isSeq_ref hs r
  exact ⟨a, d, rfl, dM_ok m e r, h1, h2, h3, h4, P.val h m .s⟩
/-! ### int(..) -/
def rIntC : RC' := fun us M q => one us fun u => match u with
  | .int i => q (.int i) M
  | .bl b => q (.int (if b then 1 else 0)) M
  | .str a => ∃ n, PySem.intText? a = some n ∧ a.length ≤ 640 ∧ q (.int n) M
  | _ => False
theorem c_int : CallR X (.type "int") (lowC X.K rIntC) := callU (CallR.or call_int1 call_int_str) fun us xs H M q Q rr m h P => by
  obtain ⟨u, rfl, h⟩ := one_inv h
  obtain ⟨v, rfl, r⟩ := rr.one_inv
  cases u with
  | int i => exact .inl (.inl ⟨i, by rw [rint r], P.val h m .i⟩)
  | bl b => exact .inl (.inr ⟨b, by rw [rbl r], P.val h m .i⟩)
  | str a =>
    obtain ⟨n, e, hz, h⟩ := h
    exact .inr ⟨a, n, by rw [rstr r], e, hz, P.val h m .i⟩
  | _ => exact (show False from h).elim
theorem lowI_mono {K : Frag} {it : TI'} {σ : L2.St} {H : Hp} {R R' : It → Hp → Prop} (h : lowI K it σ H R) (k : ∀ J H, R J H → R' J H) : lowI K it σ H R' := by
  obtain ⟨z, M, r, rs, m, h, P⟩ := h
  exact ⟨z, M, r, rs, m, h, fun xs side M1 h1 J H1 a b c => k J H1 (P xs side M1 h1 J H1 a b c)⟩
theorem tLc_mono {K : Frag} {it : TI'} {g : TG} {tt : TT} {te : TE} {vs : List Nat} {σ : L2.St} {H : Hp} {Q Q' : VK} (h : tLc (lowI K it) g tt te vs σ H Q) (k : ∀ v H, Q v H → Q' v H) : tLc (lowI K it) g tt te vs σ H Q' :=
  lowI_mono h fun J H1 f D hD => by
    obtain ⟨W, w0, ws⟩ := f D hD
    exact ⟨W, w0, fun i m H w => (ws i m H w).imp (fun ⟨a, b⟩ => ⟨a, k _ _ b⟩) fun z => z⟩
/-- what BlkOk asks, as a test -/
def blkB (N : List Str) (sc scope : Scope) (own : List (Str × Nat)) : Bool :=
  (scope.kind == .function) && (scope.names.all fun y => decide (scope.names.lookup y.1 = some y.2)) && (own.all fun p => decide (N[p.2]? = some p.1)) &&
  (scope.names.all fun y => if y.2 = .free then decide (sc.names.lookup y.1 = some .cell) || decide (sc.names.lookup y.1 = some .free) else true) &&
  (scope.names.all fun y => if y.2 = .local ∨ y.2 = .cell then decide (y.1 ∈ own.map (·.1)) || !decide (y.1 ∈ N) else true)
theorem blk_ok {N : List Str} {sc scope : Scope} {own : List (Str × Nat)} (h : blkB N sc scope own = true) : BlkOk N sc scope own := by
  unfold blkB at h
  simp only [Bool.and_eq_true, List.all_eq_true] at h
  obtain ⟨⟨⟨⟨h1, h2⟩, h3⟩, h4⟩, h5⟩ := h
  refine ⟨by simpa using h1, fun y hy => of_decide_eq_true (h2 y hy), fun p hp => of_decide_eq_true (h3 p hp), fun y hy e => ?_, fun y hy e => ?_⟩
  · have := h4 y hy
    rw [if_pos e, Bool.or_eq_true] at this
    exact this.imp of_decide_eq_true of_decide_eq_true
  · have := h5 y hy
    rw [if_pos e, Bool.or_eq_true] at this
    exact this.imp of_decide_eq_true fun z => by simpa using z
/-- name = [.. for ..] on one line -/
theorem qs_setLc {i : Nat} {y : Str} {py : Pos} {elt tg iter : Expr} {ifs : List Expr} {scope : Scope} {own : List (Str × Nat)} {spos : Pos} {it : TI'} {g : TG'} {tt : TT'} (hc : X.calm = true) (hN : X.N.Nodup) (hi : QI X tg iter it) (ok : BlkOk X.N X.env.scope scope own)
    (hg : ∀ (s : Shared) (H : Hp) (C : Addr) (cl : List (Str × Addr)) (fp : List Addr), QV (X.blk s H scope (compEnvC scope cl C X.env) fp) (own.map (·.2)) tg g) (ht : ∀ (s : Shared) (H : Hp) (C : Addr) (cl : List (Str × Addr)) (fp : List Addr), QTs (X.blk s H scope (compEnvC scope cl C X.env) fp) ifs tt)
    (he : ∀ (s : Shared) (H : Hp) (C : Addr) (cl : List (Str × Addr)) (fp : List Addr), QE (X.blk s H scope (compEnvC scope cl C X.env) fp) elt te) (hy : X.N[i]? = some y := by rfl) (hyl : X.env.scope.names.lookup y = some .local := by rfl)
    (hsw : swapsWith (.ListComp elt [⟨tg, iter, ifs, 0⟩] scope pos) (some (.Name y py)) spos.line X.env = pure true := by exact sw_true rfl rfl rfl rfl) (hs : ∀ x, foldedSetIterable iter X.env x = pure x := by intro _; rfl) :
    QS X (.Assign [.Name y py] (.ListComp elt [⟨tg, iter, ifs, 0⟩] scope pos) spos) (sSet i (eLc it g tt te (own.map (·.2)))) := by
  refine ⟨fun pins s σ H D I h => ?_⟩
  obtain ⟨z, M, d, rs, m, h, P⟩ := h
  have base := ps_setLc (wi := lowI X.K it) (g := lowV X.K (List.map (fun p : Str × Nat => p.2) own) g) (tt := lowT X.K tt) (te := lowE X.K te) (spos := spos) (py := py) hc hN hy hyl hsw hi ok hg ht he hs
  have nx : lowE X.K (eLc it g tt te (own.map (·.2))) σ H (fun x H1 => D.nx (σ.set i (some x)) H1) :=
    ⟨z, M, _, rs, m, h, fun u M' h' v H' r m' k' => P.nx _ M' h' _ H' ((rs.keep k'.tk).set r) m' k'⟩
  -- lists are locked behind the store
  have low : tAsg (tLc (lowI X.K it) (lowV X.K (List.map (fun p : Str × Nat => p.2) own) g) (lowT X.K tt) (lowE X.K te) (own.map (·.2))) (gName i) { D with nx := fun σ' H' => ∃ v, σ' = σ.set i (some v) ∧ L3.fz (fun v H1 => D.nx (σ.set i (some v)) H1) v H' } σ H :=
    tLc_mono (low_lc nx) fun v H1 h1 => ⟨v, rfl, h1⟩
  refine thn (base.run pins s σ H _ I low) fun fl s' hs => ?_
  cases fl with
  | next =>
    obtain ⟨σ', H', I', v, rfl, q⟩ := hs
    obtain ⟨H2, I2, q2⟩ := q.run I'
    exact ⟨_, H2, I2, q2⟩
  | brk => exact hs
  | cont => exact hs
  | ret u => exact hs
end
end L3

set_option Elab.async false
set_option linter.all false
set_option maxRecDepth 100000
set_option maxHeartbeats 4000000
namespace L3
open PySem PySem.Spec L2
open PyProof.Rows hiding St
/-! ### reading a body -/
theorem ifB_of {b : Bool} {p r : Prop} (h1 : b = true → p) (h2 : b = false → r) : ifB b p r := by
  cases b with
  | true => exact h1 rfl
  | false => exact h2 rfl
theorem ifB_dec {c : Prop} [Decidable c] {p r : Prop} (h1 : c → p) (h2 : ¬ c → r) : ifB (decide c) p r := ifB_of (fun h => h1 (of_decide_eq_true h)) fun h => h2 (of_decide_eq_false h)
theorem ifB_true {p r : Prop} (h : p) : ifB true p r := h
theorem ifB_false {p r : Prop} (h : r) : ifB false p r := h
theorem ifB_iff {b : Bool} {p r : Prop} : ifB b p r ↔ (b = true → p) ∧ (b = false → r) := by
  cases b <;> simp [ifB]
theorem isTy_int_int : isTy "int" "int" = true := by decide +kernel
theorem isTy_int_bool : isTy "int" "bool" = false := by decide +kernel
theorem isTy_bool_int : isTy "bool" "int" = true := by decide +kernel
theorem isTy_bool_bool : isTy "bool" "bool" = true := by decide +kernel
theorem isTy_tuple_tuple : isTy "tuple" "tuple" = true := by decide +kernel
theorem isTy_tuple_list : isTy "tuple" "list" = false := by decide +kernel
theorem isTy_list_tuple : isTy "list" "tuple" = false := by decide +kernel
theorem isTy_list_list : isTy "list" "list" = true := by decide +kernel
theorem isTy_tuple_int : isTy "tuple" "int" = false := by decide +kernel
theorem isTy_list_int : isTy "list" "int" = false := by decide +kernel
theorem isTy_str_int : isTy "str" "int" = false := by decide +kernel
theorem isTy_int_str : isTy "int" "str" = false := by decide +kernel
theorem isTy_str_str : isTy "str" "str" = true := by decide +kernel
theorem isTy_int_tuple : isTy "int" "tuple" = false := by decide +kernel
theorem isTy_int_list : isTy "int" "list" = false := by decide +kernel
theorem isTy_str_tuple : isTy "str" "tuple" = false := by decide +kernel
theorem isTy_str_list : isTy "str" "list" = false := by decide +kernel
theorem okN_int : okN "int" = true := by decide +kernel
theorem okN_bool : okN "bool" = true := by decide +kernel
theorem okN_str : okN "str" = true := by decide +kernel
theorem okN_list : okN "list" = true := by decide +kernel
theorem okN_tuple : okN "tuple" = true := by decide +kernel
/-- M' holds what M holds -/
def Sub (M M' : Mp) : Prop := ∀ a o, M a = some o → M' a = some o
theorem Sub.refl (M : Mp) : Sub M M := fun _ _ h => h
theorem Sub.put {M : Mp} {a : Addr} {o : MO} (h : M a = none) : Sub M (put M a o) := fun b u e => by
  rw [put_ne (mne e h)]; exact e
theorem Sub.seqL {M M' : Mp} (s : Sub M M') {u : U} {xs : List U} (h : seqL M u = some xs) : seqL M' u = some xs := by
  cases u with
  | ref a =>
    have h' : (match M a with | some (.lst xs) => some xs | _ => none) = some xs := h
    cases e : M a with
    | none => rw [e] at h'; cases h'
    | some o =>
      show (match M' a with | some (.lst xs) => some xs | _ => none) = some xs
      rw [s _ _ e]
      rw [e] at h'
      exact h'
  | lst ys => exact h
  | _ => cases h
/-- a comprehension that leaves all as it is -/
theorem lc_pure {z : SL} {M : Mp} {q : QK} {xs : List U} {side : Mp → Prop} {g : TG'} {tt : TT'} {te : TE'} {vs : List Nat} (f : U → Option U) (hs : ∀ M', Sub M M' → side M') (hl : xs.length ≤ sizeLine)
    (step : ∀ x ∈ xs, ∀ M', Sub M M' → ∀ (k1 : U → Mp → Prop) (k0 : Mp → Prop), (∀ y, f x = some y → k1 y M') → (f x = none → k0 M') → g x (wipeS z vs) M' fun z2 M2 => tt z2 M2 fun b M3 => ifB b (te z2 M3 k1) (k0 M3))
    (hq : q (.lst (xs.filterMap f)) M) : lcQ g tt te vs z q xs side M := ⟨by
  intro D hD
  refine ⟨fun i acc M' => acc = (xs.take i).filterMap f ∧ M' = put M D (.lst acc), ⟨by simp, rfl⟩, fun i acc M' ⟨_, e⟩ => by rw [e]; exact hs _ (.put hD), ?_, ?_⟩
  · rintro i x acc M' hx ⟨e1, rfl⟩
    have hi : i < xs.length := (List.getElem?_eq_some_iff.mp hx).1
    have ht : xs.take (i + 1) = xs.take i ++ [x] := by rw [List.take_add_one, hx]; rfl
    have ha : acc.length ≤ i := by
      rw [e1]
      exact Nat.le_trans (List.length_filterMap_le _ _) (by rw [List.length_take]; omega)
    refine step x (List.mem_of_getElem? hx) _ (.put hD) _ _ (fun y ey => ⟨put_same, by omega, ?_, put_put⟩) fun en => ⟨?_, rfl⟩
    · rw [ht, List.filterMap_append, ← e1]; simp [ey]
    · rw [ht, List.filterMap_append, ← e1]; simp [en]
  · rintro acc M' ⟨e1, rfl⟩
    rw [List.take_length] at e1
    refine .inl ⟨put_same, ?_⟩
    rw [drp_put hD, e1]
    exact hq⟩
/-- the same, an item for each -/
theorem lc_map {z : SL} {M : Mp} {q : QK} {xs : List U} {side : Mp → Prop} {g : TG'} {te : TE'} {vs : List Nat} (f : U → U) (hs : ∀ M', Sub M M' → side M') (hl : xs.length ≤ sizeLine)
    (step : ∀ x ∈ xs, ∀ M', Sub M M' → ∀ (k : U → Mp → Prop), k (f x) M' → g x (wipeS z vs) M' fun z2 M2 => te z2 M2 k)
    (hq : q (.lst (xs.map f)) M) : lcQ g tYes' te vs z q xs side M :=
  lc_pure (fun x => some (f x)) hs hl (fun x hx M' s k1 k0 h1 h0 => step x hx M' s k1 (h1 _ rfl)) (by
    have e : xs.filterMap (fun x => some (f x)) = xs.map f := by
      have : (fun x => some (f x)) = some ∘ f := rfl
      rw [this, List.filterMap_eq_map]
    rw [e]; exact hq)
end L3

set_option Elab.async false
set_option linter.all false
set_option maxRecDepth 100000
set_option maxHeartbeats 4000000
namespace L3
open PySem PySem.Spec L2
open PyProof.Rows hiding St
/-! ### frozen rows -/
/-- the items of a frozen list, of a tuple -/
def seqF : U → Option (List U)
  | .tup xs => some xs
  | .kt xs => some xs
  | .lst xs => some xs
  | _ => none
theorem seqF_A {M : Mp} {u : U} {xs : List U} (h : seqF u = some xs) : seqA M u = some xs := by
  cases u <;> first | exact h | (cases h)
theorem seqF_len {M : Mp} {u : U} {xs : List U} (h : seqF u = some xs) : lenU M u = some xs.length := by
  cases u <;> first | (cases h; rfl) | (cases h)
theorem seqF_ty {M : Mp} {u : U} {xs : List U} (h : seqF u = some xs) : tyN M u = some "tuple" ∨ tyN M u = some "list" := by
  cases u <;> first | exact .inl rfl | exact .inr rfl | (cases h)
theorem seqF_ix {M : Mp} {u : U} {xs : List U} {i : Int} {v : U} {q : QK} (h : seqF u = some xs) (hv : atI xs i = some v) (hq : q v M) : rIx u (.int i) M q := by
  cases u <;> first | (cases h; exact ⟨⟨v, hv, hq⟩⟩) | (cases h)
theorem seqF_iter {M : Mp} {u : U} {xs : List U} {r : List U → (Mp → Prop) → Mp → Prop} (h : seqF u = some xs) (hr : ∀ side, (∀ M', side M') → r xs side M) : iterQ u M r := ⟨by
  cases u with
  | tup ys => cases h; exact hr _ fun _ => trivial
  | kt ys => cases h; exact hr _ fun _ => trivial
  | lst ys => cases h; exact ⟨_, rfl, hr _ fun _ => rfl⟩
  | _ => cases h⟩
theorem seqF_unp {M : Mp} {u : U} {xs : List U} {z : SL} {n : Nat} {t : TGs'} {q : SL → Mp → Prop} (h : seqF u = some xs) (hn : xs.length = n) (ht : t xs z M q) : gTuple n t u z M q := by
  cases u with
  | tup ys => cases h; exact ⟨⟨hn, ht⟩⟩
  | kt ys => cases h; exact ⟨⟨hn, ht⟩⟩
  | lst ys => cases h; exact ⟨⟨_, rfl, hn, ht⟩⟩
  | _ => cases h
/-! ### what stays, but at one place -/
def Keep (d : Addr) (M M' : Mp) : Prop := ∀ b o, b ≠ d → M b = some o → M' b = some o
theorem Keep.refl (d : Addr) (M : Mp) : Keep d M M := fun _ _ _ h => h
theorem Keep.trans {d : Addr} {M M1 M2 : Mp} (a : Keep d M M1) (b : Keep d M1 M2) : Keep d M M2 := fun c o h e => b c o h (a c o h e)
theorem Keep.put (d : Addr) (M : Mp) (o : MO) : Keep d M (put M d o) := fun b u h e => by rw [put_ne h]; exact e
theorem Sub.keep {d : Addr} {M M' : Mp} (h : Sub M M') : Keep d M M' := fun b o _ e => h b o e
theorem Sub.trans {M M1 M2 : Mp} (a : Sub M M1) (b : Sub M1 M2) : Sub M M2 := fun c o e => b c o (a c o e)
theorem Keep.new {d p : Addr} {M : Mp} {o : MO} (h : M p = none) : Keep d M (L3.put M p o) := (Sub.put h).keep
theorem Keep.at {d a : Addr} {M M' : Mp} {o : MO} (k : Keep d M M') (h : M a = some o) (n : a ≠ d) : M' a = some o := k a o n h
/-- what is new may be changed, too -/
theorem Keep.put_new {d p : Addr} {M M' : Mp} {o : MO} (k : Keep d M M') (h : M p = none) : Keep d M (L3.put M' p o) := fun b u hb e => by
  rw [put_ne (mne e h)]
  exact k b u hb e
theorem Sub.put_new {p : Addr} {M M' : Mp} {o : MO} (k : Sub M M') (h : M p = none) : Sub M (L3.put M' p o) := fun b u e => by
  rw [put_ne (mne e h)]
  exact k b u e
theorem Keep.of {d : Addr} {M M' : Mp} (k : Keep d M M') (h : ∀ o, M d = some o → M' d = some o) : Sub M M' := fun b o e => by
  by_cases hb : b = d
  · subst hb; exact h o e
  · exact k b o hb e
theorem ref_ne_of {M : Mp} {a b : Addr} {o o' : MO} (h : M a = some o) (h' : M b = some o') (n : o ≠ o') : a ≠ b := by
  intro e; subst e; rw [h] at h'; exact n (Option.some.inj h')
/-! ### the deck -/
/-- at d a list of at least n draws -/
def Dk (M : Mp) (d : Addr) (n : Nat) : Prop := ∃ ds : List Int, M d = some (.lst (ds.map U.int)) ∧ (∀ x ∈ ds, 0 ≤ x ∧ x < 2147483648) ∧ n ≤ ds.length
theorem Dk.mono {M : Mp} {d : Addr} {m n : Nat} (h : Dk M d n) (k : m ≤ n) : Dk M d m := by
  obtain ⟨ds, e, r, l⟩ := h
  exact ⟨ds, e, r, Nat.le_trans k l⟩
theorem Dk.keep {M M' : Mp} {d : Addr} {n : Nat} (h : Dk M d n) (k : ∀ o, M d = some o → M' d = some o) : Dk M' d n := by
  obtain ⟨ds, e, r, l⟩ := h
  exact ⟨ds, k _ e, r, l⟩
theorem Dk.ne {M : Mp} {d p : Addr} {n : Nat} (h : Dk M d n) (k : M p = none) : d ≠ p := by
  obtain ⟨ds, e, _, _⟩ := h
  exact mne e k
theorem pop_dk {M : Mp} {q : QK} {n : Nat} {d : Addr} (h : Dk M d (n + 1)) (k : ∀ (y : Int) (M' : Mp), 0 ≤ y → y < 2147483648 → Dk M' d n → Keep d M M' → q (.int y) M') : isML (.ref d) M ∧ rPop (.ref d) [] M q := by
  obtain ⟨ds, e, r, l⟩ := h
  have hl : ds.length - 1 < ds.length := by omega
  have hy : ds[ds.length - 1]? = some ds[ds.length - 1] := List.getElem?_eq_getElem hl
  refine ⟨⟨d, _, rfl, e⟩, ⟨rfl, d, _, .int ds[ds.length - 1], rfl, e, ?_, ?_⟩⟩
  · rw [List.length_map, List.getElem?_map, hy]; rfl
  · have hm := r ds[ds.length - 1] (List.getElem_mem hl)
    refine k _ _ hm.1 hm.2 ⟨ds.dropLast, ?_, fun x hx => r x (List.dropLast_subset _ hx), ?_⟩ (.put _ _ _)
    · rw [put_same, List.map_dropLast]
    · rw [List.length_dropLast]; omega
/-! ### texts -/
theorem len_int {i : Int} (h : i.natAbs.log2 < 1920) : (PySem.Str.ofString (toString i)).length ≤ 1921 := PyProof.Rows.int_text_len_1921 h
theorem log2_of_lt {i : Int} {n : Nat} (h : i.natAbs < 2 ^ n) (hn : 0 < n) : i.natAbs.log2 < n := by
  by_cases h0 : i.natAbs = 0
  · rw [h0]; exact hn
  · exact (Nat.log2_lt h0).mpr h
end L3

set_option Elab.async false
set_option linter.all false
set_option maxRecDepth 100000
set_option maxHeartbeats 4000000
namespace L3
open PySem PySem.Spec L2
open PyProof.Rows hiding St
/-! ### dicts, read -/
theorem asL_dic {M : Mp} {a : Addr} {k : List U → Prop} {d : Bool → Bool → List (U × U) → Prop} {tk lk : Bool} {kvs : List (U × U)} (h : M a = some (.dic tk lk kvs)) (hd : d tk lk kvs) : asL M a k d := by
  unfold asL; rw [h]; exact hd
theorem asL_lst {M : Mp} {a : Addr} {k : List U → Prop} {d : Bool → Bool → List (U × U) → Prop} {xs : List U} (h : M a = some (.lst xs)) (hk : k xs) : asL M a k d := by
  unfold asL; rw [h]; exact hk
theorem ix_dic {M : Mp} {a : Addr} {k v : U} {tk lk : Bool} {kvs : List (U × U)} {q : QK} (h : M a = some (.dic tk lk kvs)) (hk : isKey tk k = true) (hv : dlook kvs k = some v) (hq : q v M) : rIx (.ref a) k M q := ⟨asL_dic h ⟨hk, v, hv, hq⟩⟩
theorem ix_lst {M : Mp} {a : Addr} {i : Int} {v : U} {xs : List U} {q : QK} (h : M a = some (.lst xs)) (hv : atI xs i = some v) (hq : q v M) : rIx (.ref a) (.int i) M q := ⟨asL_lst h ⟨v, hv, hq⟩⟩
theorem in_dic {M : Mp} {a : Addr} {k : U} {tk lk : Bool} {kvs : List (U × U)} {q : QK} {f : Bool → Bool} (h : M a = some (.dic tk lk kvs)) (hk : isKey tk k = true) (hq : q (.bl (f (dlook kvs k).isSome)) M) : rIn f k (.ref a) M q := asL_dic h ⟨hk, hq⟩
theorem dlook_map_none {α : Type} {key val : α → U} {l : List α} {k : U} (h : ∀ r ∈ l, key r ≠ k) : dlook (l.map fun r => (key r, val r)) k = none := by
  induction l with
  | nil => rfl
  | cons r l ih =>
    rw [List.map_cons, dlook_cons, if_neg (h r (List.mem_cons_self ..))]
    exact ih fun s hs => h s (List.mem_cons_of_mem _ hs)
theorem dlook_map_some {α : Type} {key val : α → U} {l : List α} {r : α} (hr : r ∈ l) (inj : ∀ s ∈ l, key s = key r → val s = val r) : dlook (l.map fun r => (key r, val r)) (key r) = some (val r) := by
  induction l with
  | nil => simp at hr
  | cons s l ih =>
    rw [List.map_cons, dlook_cons]
    by_cases e : key s = key r
    · rw [if_pos e, inj s (List.mem_cons_self ..) e]
    · rw [if_neg e]
      rcases List.mem_cons.mp hr with rfl | hr
      · exact absurd rfl e
      · exact ih hr fun t ht => inj t (List.mem_cons_of_mem _ ht)
theorem dlook_any (kvs : List (U × U)) (k : U) : (kvs.any fun p => decide (p.1 = k)) = (dlook kvs k).isSome := by
  induction kvs with
  | nil => rfl
  | cons p kvs ih =>
    rw [List.any_cons, dlook_cons, ih]
    by_cases e : p.1 = k
    · rw [decide_eq_true e, if_pos e]; rfl
    · rw [decide_eq_false e, if_neg e]; rfl
theorem dput_new {kvs : List (U × U)} {k v : U} (h : dlook kvs k = none) : dput kvs k v = kvs ++ [(k, v)] := by
  unfold dput
  rw [dlook_any, h]
  rfl
theorem dlook_none {kvs : List (U × U)} {k : U} (h : k ∉ kvs.map (·.1)) : dlook kvs k = none := by
  induction kvs with
  | nil => rfl
  | cons p kvs ih =>
    rw [List.map_cons, List.mem_cons] at h
    rw [dlook_cons, if_neg (fun e => h (.inl e.symm))]
    exact ih fun z => h (.inr z)
theorem mergeU_nodup : ∀ (more acc : List (U × U)), (acc.map (·.1) ++ more.map (·.1)).Nodup → mergeU acc more = acc ++ more
  | [], acc, _ => by simp [mergeU]
  | p :: more, acc, h => by
    show mergeU (dput acc p.1 p.2) more = _
    have hp : p.1 ∉ acc.map (·.1) := by
      intro z
      rw [List.map_cons] at h
      exact (List.nodup_append.mp h).2.2 _ z _ (List.mem_cons_self ..) rfl
    rw [dput_new (dlook_none hp), mergeU_nodup more (acc ++ [(p.1, p.2)]) (by simpa using h)]
    simp
theorem pairsU_map {α : Type} {key val : α → U} : ∀ l : List α, pairsU (l.map fun r => .tup [key r, val r]) = some (l.map fun r => (key r, val r))
  | [] => rfl
  | r :: l => by
    rw [List.map_cons, List.map_cons]
    unfold pairsU
    rw [pairsU_map l]
    rfl
/-! ### comparing pairs of ints -/
theorem okD_ii (a b : Int) : okD (.tuple [.int a, .int b]) := by
  unfold okD SeqAt.shaped
  simp [PyData.canLay0, PyData.canLayAll0, PyData.depth, PyData.depthAll]
theorem eqv_ii (a b c d : Int) : PyData.eqv (.tuple [.int a, .int b]) (.tuple [.int c, .int d]) = decide (a = c ∧ b = d) := by
  by_cases h1 : a = c <;> by_cases h2 : b = d <;> simp [PyData.eqv, PyData.eqvAll, h1, h2]
theorem eq_ii {f : Bool → Bool} {a b c d : Int} {M : Mp} {q : QK} (h : q (.bl (f (decide (a = c ∧ b = d)))) M) : rEqG f (.tup [.int a, .int b]) (.tup [.int c, .int d]) M q := by
  refine ⟨.tuple [.int a, .int b], .tuple [.int c, .int d], rfl, rfl, okD_ii a b, okD_ii c d, ?_⟩
  rw [eqv_ii]
  exact h
/-! ### sorting pairs of ints -/
theorem alike_ii (a b c d : Int) : PySem.W.alike (.tuple [.int a, .int b]) (.tuple [.int c, .int d]) = true := by
  simp [PySem.W.alike, PySem.W.alikeAll]
theorem sortOk_ii {α : Type} (x y : α → Int) (l : List α) : SortOk (l.map fun r => .kt [.int (x r), .int (y r)]) := by
  refine ⟨fun u hu => ?_, ?_, ?_, fun u hu => ?_⟩
  · obtain ⟨r, _, rfl⟩ := List.mem_map.mp hu; rfl
  · intro d hd d' hd'
    obtain ⟨u, hu, rfl⟩ := List.mem_map.mp hd
    obtain ⟨r, _, rfl⟩ := List.mem_map.mp hu
    obtain ⟨u', hu', rfl⟩ := List.mem_map.mp hd'
    obtain ⟨r', _, rfl⟩ := List.mem_map.mp hu'
    exact alike_ii _ _ _ _
  · refine .inl fun d hd => ?_
    obtain ⟨u, hu, rfl⟩ := List.mem_map.mp hd
    obtain ⟨r, _, rfl⟩ := List.mem_map.mp hu
    exact ⟨.int (x r), [.int (y r)], rfl⟩
  · obtain ⟨r, _, rfl⟩ := List.mem_map.mp hu
    show (PyData.tuple [.int (x r), .int (y r)]).depth ≤ 60
    simp [PyData.depth, PyData.depthAll]
theorem sortU_ii {α : Type} (x y : α → Int) (l : List α) : sortU (l.map fun r => .kt [.int (x r), .int (y r)]) = (l.mergeSort fun r s => decide (x r < x s ∨ (x r = x s ∧ y r ≤ y s))).map fun r => .kt [.int (x r), .int (y r)] := by
  unfold sortU
  have e := List.map_mergeSort (r := fun r s => decide (x r < x s ∨ (x r = x s ∧ y r ≤ y s))) (s := PySem.W.dataLe false dOf) (f := fun r : α => U.kt [.int (x r), .int (y r)]) (l := l) (fun a _ b _ => by
    have h := PySem.W.dataLe_ii (β := α) x y
    have h2 : PySem.W.dataLe false dOf (.kt [.int (x a), .int (y a)]) (.kt [.int (x b), .int (y b)]) = PySem.W.dataLe false (fun b => PyData.tuple [.int (x b), .int (y b)]) a b := rfl
    rw [h2, h])
  rw [← e]
/-! ### pairs of lists -/
theorem pd_get {α β : Type} {F : α → β → Prop} : ∀ {l₁ : List α} {l₂ : List β} {j : Nat} {x : α}, Paired F l₁ l₂ → l₁[j]? = some x → ∃ y, l₂[j]? = some y ∧ F x y
  | _, _, j, x, .nil, h => by simp at h
  | _, _, 0, x, .cons (b := y) f _, h => by
    simp only [List.getElem?_cons_zero] at h
    cases h
    exact ⟨y, rfl, f⟩
  | _, _, j + 1, x, .cons _ t, h => by
    simp only [List.getElem?_cons_succ] at h
    obtain ⟨y, e, f⟩ := pd_get t h
    exact ⟨y, by simpa using e, f⟩
theorem pd_mem {α β : Type} {F : α → β → Prop} {l₁ : List α} {l₂ : List β} {x : α} (h : Paired F l₁ l₂) (hx : x ∈ l₁) : ∃ y ∈ l₂, F x y := by
  obtain ⟨j, hj⟩ := List.mem_iff_getElem?.mp hx
  obtain ⟨y, e, f⟩ := pd_get h hj
  exact ⟨y, List.mem_of_getElem? e, f⟩
theorem pd_map {α β γ : Type} {F : α → β → Prop} {f : α → γ} {g : β → γ} (k : ∀ x y, F x y → f x = g y) : ∀ {l₁ : List α} {l₂ : List β}, Paired F l₁ l₂ → l₁.map f = l₂.map g
  | _, _, .nil => rfl
  | _, _, .cons h t => by rw [List.map_cons, List.map_cons, k _ _ h, pd_map k t]
theorem pd_of {α β : Type} {F : α → β → Prop} {f : β → α} (k : ∀ y, F (f y) y) : ∀ l : List β, Paired F (l.map f) l
  | [] => .nil
  | y :: l => .cons (k y) (pd_of k l)
theorem le1 : 1 ≤ sizeLine := by decide
theorem le2 : 2 ≤ sizeLine := by decide
theorem le3 : 3 ≤ sizeLine := by decide
theorem putU_len (f : Str) (v : U) : ∀ fs : List (Str × U), (putU f v fs).length ≤ fs.length + 1
  | [] => by simp [putU]
  | (g, y) :: fs => by
    unfold putU
    split
    · simp
    · simpa using putU_len f v fs
end L3

set_option Elab.async false
set_option linter.all false
set_option maxRecDepth 100000
set_option maxHeartbeats 4000000
namespace L3
open PySem PySem.Spec L2
open PyProof.Rows hiding St
/-! ### lengths of texts -/
theorem sum_le {B : Nat} : ∀ {ss : List Str}, (∀ s ∈ ss, s.length ≤ B) → (ss.map (·.length)).sum ≤ B * ss.length
  | [], _ => by simp
  | s :: ss, h => by
    have h1 := h s (List.mem_cons_self ..)
    have h2 := sum_le fun t ht => h t (List.mem_cons_of_mem s ht)
    rw [List.map_cons, List.sum_cons, List.length_cons, Nat.mul_add]
    omega
theorem join_len (y : Str) : ∀ ss : List Str, (Txt.join y ss).length ≤ (ss.map (·.length)).sum + ss.length * y.length
  | [] => by rw [TL.join_eq]; show (PySem.Str.empty).length ≤ _; exact Nat.zero_le _
  | [s] => by rw [TL.join_eq]; show s.length ≤ _; simp
  | s :: t :: r => by
    have ih := join_len y (t :: r)
    rw [TL.join_eq] at ih ⊢
    show (s ++ y ++ PySem.Str.join y (t :: r)).length ≤ _
    rw [PySem.Str.length_append, PySem.Str.length_append]
    simp only [List.map_cons, List.sum_cons, List.length_cons, Nat.add_mul, Nat.one_mul] at ih ⊢
    omega
theorem join_nil (y : Str) : Txt.join y [] = PySem.Str.empty := by rw [TL.join_eq]; rfl
theorem join_one (y s : Str) : Txt.join y [s] = s := by rw [TL.join_eq]; rfl
theorem join_cons2 (y s t : Str) (r : List Str) : Txt.join y (s :: t :: r) = s ++ y ++ Txt.join y (t :: r) := by rw [TL.join_eq, TL.join_eq]; rfl
theorem str_empty_eq : ("" : Str) = PySem.Str.empty := rfl
theorem app_assoc (a b c : Str) : a ++ b ++ c = a ++ (b ++ c) := PySem.Str.append_assoc a b c
theorem app_empty (a : Str) : a ++ ("" : Str) = a := PySem.Str.append_empty a
theorem empty_app (a : Str) : ("" : Str) ++ a = a := PySem.Str.empty_append a
/-- texts joined by nothing -/
theorem join0_cons (s : Str) (r : List Str) : Txt.join "" (s :: r) = s ++ Txt.join "" r := by
  cases r with
  | nil => rw [join_one, join_nil, ← str_empty_eq, app_empty]
  | cons t r => rw [join_cons2, app_empty]
/-! ### seq, with what holds between -/
theorem seq_cut {t u : TS'} {d : Ends'} {z : SL} {M : Mp} (J : SL → Mp → Prop) (hv : ∀ z M, J z M → u d z M) (h : (∀ z M, J z M → u d z M) → sSeq t u d z M) : sSeq t u d z M := h hv
/-! ### indices -/
theorem atI_in {α : Type} {xs : List α} {i : Int} (h0 : 0 ≤ i) (h1 : i < xs.length) : ∃ v, xs[i.toNat]? = some v ∧ atI xs i = some v := by
  have hl : i.toNat < xs.length := by omega
  refine ⟨xs[i.toNat], List.getElem?_eq_getElem hl, ?_⟩
  have := atI_nat (xs := xs) (j := i.toNat) (List.getElem?_eq_getElem hl)
  rwa [Int.toNat_of_nonneg h0] at this
theorem atI_mem {α : Type} {xs : List α} {i : Int} (h0 : 0 ≤ i) (h1 : i < xs.length) : ∃ v ∈ xs, atI xs i = some v := by
  obtain ⟨v, e, h⟩ := atI_in h0 h1
  exact ⟨v, List.mem_of_getElem? e, h⟩
theorem atI_int {ns : List Int} {i : Int} (h0 : 0 ≤ i) (h1 : i < ns.length) : ∃ v ∈ ns, atI (ns.map U.int) i = some (.int v) := by
  obtain ⟨v, e, h⟩ := atI_in (xs := ns.map U.int) h0 (by simpa using h1)
  rw [List.getElem?_map] at e
  cases e' : ns[i.toNat]? with
  | none => rw [e'] at e; cases e
  | some w =>
    rw [e'] at e
    cases e
    exact ⟨w, List.mem_of_getElem? e', h⟩
theorem ixN_in {n : Nat} {i : Int} (h0 : 0 ≤ i) (h1 : i < n) : ixN n i = some i.toNat := by
  unfold ixN
  rw [if_pos h0, if_pos h1]
theorem lenU_lst {M : Mp} {a : Addr} {xs : List U} (h : M a = some (.lst xs)) : lenU M (.ref a) = some xs.length := by
  show (match M a with | some (.lst xs) => some xs.length | some (.dic false _ kvs) => some kvs.length | _ => none) = _
  rw [h]
theorem seqL_ref {M : Mp} {a : Addr} {xs : List U} (h : M a = some (.lst xs)) : seqL M (.ref a) = some xs := by
  show (match M a with | some (.lst xs) => some xs | _ => none) = _
  rw [h]
theorem dTs_ints : ∀ ns : List Int, dTs (ns.map U.int) = some (ns.map PyData.int)
  | [] => rfl
  | n :: ns => by
    rw [List.map_cons]
    unfold dTs
    rw [dTs_ints ns]
    rfl
theorem dM_ints {M : Mp} {a : Addr} {ns : List Int} (h : M a = some (.lst (ns.map U.int))) : dM M (.ref a) = some (.list (ns.map PyData.int)) := by
  show (match M a with | some (.lst xs) => (dTs xs).map PyData.list | _ => none) = _
  rw [h]
  show (dTs (ns.map U.int)).map PyData.list = _
  rw [dTs_ints]
  rfl
theorem canLay_ints : ∀ ns : List Int, PyData.canLayAll0 (ns.map PyData.int) = true
  | [] => rfl
  | n :: ns => by
    rw [List.map_cons]
    unfold PyData.canLayAll0
    rw [canLay_ints ns]
    rfl
theorem okD_ints (ns : List Int) : okD (.list (ns.map PyData.int)) := by
  unfold okD SeqAt.shaped
  have h := PySem.W.depth_ints ns
  simp [PyData.canLay0, PyData.depth, canLay_ints ns, h]
theorem eqv_nil : ∀ ns : List Int, PyData.eqv (.list (ns.map PyData.int)) (.list []) = decide (ns = [])
  | [] => rfl
  | _ :: _ => by simp [PyData.eqv, PyData.eqvAll]
theorem mulOk {i j : Int} (h1 : -(2 ^ 64) < i) (h2 : i < 2 ^ 64) : IntMulOk i j := CMul.ok (.inl ⟨h1, h2⟩)
theorem mulOk' {i j : Int} (h1 : -(2 ^ 64) < j) (h2 : j < 2 ^ 64) : IntMulOk i j := CMul.ok (.inr ⟨h1, h2⟩)
/-- for i in range(n): W by the number -/
theorem range_at {n : Nat} {i : Nat} {x : U} (h : (rangeU 0 (n : Int).toNat)[i]? = some x) : i < n ∧ x = .int i := by
  obtain ⟨h1, h2⟩ := rangeU_get h
  exact ⟨by simpa using h1, by rw [h2]; congr 1; omega⟩
theorem w62_nat {n : Nat} (h : n ≤ 1000000) : w62 (n : Int) := by
  unfold w62
  omega
end L3

set_option Elab.async false
set_option linter.all false
set_option maxRecDepth 100000
set_option maxHeartbeats 4000000
namespace L3
open PySem PySem.Spec L2
open PyProof.Rows hiding St
section
variable {X : Cx} {x : Str} {p pos apos cpos : Pos} {o e f : Expr} {es : List Expr} {to te : TE'} {ta : TA'} {C : Addr}
/-! ### x.split(y) -/
def rSplit : RM' := fun u us M q => one us fun y => ∃ a b, u = .str a ∧ y = .str b ∧ (b.length == 0) = false ∧ a.length + 2 ≤ sizeLine ∧ newL ((Txt.split a b).map U.str) M q
theorem repL_str {K : Frag} {H : Hp} : ∀ ss : List Str, RepL K H (ss.map U.str) (ss.map V.str)
  | [] => .nil
  | _ :: ss => .cons .s (repL_str ss)
theorem MtR.fz {id : String} {r : V → List V → Hp → VK → Prop} (h : MtR X id r) : MtR X id (fun x xs H Q => r x xs H (L3.fz Q)) :=
  fun pins s σ H x xs v us Q I rx rs q => thn (h pins s σ H x xs v us (L3.fz Q) I rx rs q) fun _ _ e => EP.fz e
theorem m_split : MtR X "str.split" (lowM X.K rSplit) := mthU (MtR.fz mt_split) fun u us x xs H M q Q ru rr m h P => by
  obtain ⟨y, rfl, a, b, rfl, rfl, hb, hz, h⟩ := one_inv h
  obtain ⟨v, rfl, r⟩ := rr.one_inv
  exact ⟨a, b, rstr ru, by rw [rstr r], hb, hz, fun p hp => newL_ok m (repL_str _) h P hp⟩
theorem qm_split (ho : QE X o to) (ha : QE X e te) (hbase : attributeBase o "split" X.env (eval o X.env) = eval o X.env := by rfl)
    (hfew : ((backTo cpos (starEach [e] X.env)).all (fun x => !x.1) && (backToKw cpos (keywordEach [] X.env)).all (fun x => x.1.isSome) && decide (([e] : List Expr).length + ([] : List Keyword).length + (if ([] : List Keyword).isEmpty then 0 else 1) < 30)) = true := by rfl)
    (hline : (apos.endLine == cpos.line) = true := by rfl) (hs : starEach [e] X.env = (false, eval e X.env) :: starEach [] X.env := by rfl) (hplain : (backTo cpos (starEach [] X.env)).any (·.1) = false := by rfl) :
    QE X (.Call (.Attribute o "split" apos) [e] [] cpos) (eM isS rSplit to (eCons te eNil)) :=
  qe_bm PySem.F.plainAttrs_str PySem.F.slot_str_split PySem.F.type_str_split m_split isS_ty ho (qa_cons ha qa_nil hs) hbase hfew hline hs hplain
/-! ### isinstance(x, C), C one's own class -/
def insB (K : Frag) (x : Str) : Bool := He.eqO (PySem.W.findIn K (.ref (He.ga K x)) "__class__") (some (some (.builtin "object.__class__"))) && (He.eqO (PySem.W.specialIn K (.builtin "object.__class__") "__get__") (some (some (.builtin "getset_descriptor.__get__"))) &&
  (decide (PySem.W.takesIn K (.builtin "object.__class__") = some true) && (decide (PySem.W.mroIn K (He.ga K x) (.type "object") = some true) && decide (PySem.W.kitOne K (.ref (He.ga K x)) (.ref (He.ga K x)) = some true))))
theorem insB_ok {K : Frag} {x : Str} (c : Cls K (He.ga K x)) (h : insB K x = true) : C8.InsC K (He.ga K x) := by
  unfold insB at h
  simp only [Bool.and_eq_true, decide_eq_true_eq] at h
  obtain ⟨h1, h2, h3, h4, h5⟩ := h
  exact ⟨c, He.eqO_ok h1, He.eqO_ok h2, h3, h4, h5⟩
def rIsO (C : Addr) : RC' := fun us M q => two us fun u c => c = .ref C ∧ ∃ a fs, u = .ref a ∧ M a = some (.ins C fs) ∧ q (.bl true) M
theorem c_isO (c : C8.InsC X.K C) : CallR X (.builtin "isinstance") (lowC X.K (rIsO C)) := callU (C8.call_isC c) fun us xs H M q Q rr m h P => by
  obtain ⟨u, w, rfl, rfl, a, fs, rfl, e, h⟩ := two_inv h
  obtain ⟨v, y, rfl, r1, r2⟩ := rr.two_inv
  obtain ⟨dx, l, e1, _⟩ := m a _ e
  exact ⟨a, dx, l, by rw [rref r1, rref r2], e1, P.val h m .b⟩
/-- an own class as a value -/
theorem qe_gref {a : Addr} (hm : X.mg x = some (.ref a)) (hg : Gl X x := by rfl) (hd : (x == ("__debug__" : Str)) = false := by decide) : QE X (.Name x pos) (eC (.ref a)) :=
  qe_cst (pe_glob (v := .ref a) hg hm rfl hd) fun H => .r
/-! ### all, any; sum, min, max of a list of ints; abs -/
def rBls (f : List Bool → Bool) : RC' := fun us M q => one us fun u => ∃ bs : List Bool, seqL M u = some (bs.map U.bl) ∧ q (.bl (f bs)) M
theorem repL_bls {K : Frag} {H : Hp} : ∀ {bs : List Bool} {vs : List V}, RepL K H (bs.map U.bl) vs → vs = bs.map V.bl
  | [], vs, h => by simpa only [List.map_nil, RepL] using h
  | b :: bs, vs, h => by
    simp only [List.map_cons, RepL] at h
    obtain ⟨v, r, rfl, h1, h2⟩ := h
    rw [rbl h1, repL_bls h2, List.map_cons]
theorem repL_ints {K : Frag} {H : Hp} : ∀ {ns : List Int} {vs : List V}, RepL K H (ns.map U.int) vs → vs = ns.map V.int
  | [], vs, h => by simpa only [List.map_nil, RepL] using h
  | b :: bs, vs, h => by
    simp only [List.map_cons, RepL] at h
    obtain ⟨v, r, rfl, h1, h2⟩ := h
    rw [rint h1, repL_ints h2, List.map_cons]
theorem c_all (hc : X.calm = true) : CallR X (.builtin "all") (lowC X.K (rBls fun bs => bs.all id)) := callU (cr_all hc) fun us xs H M q Q rr m h P => by
  obtain ⟨u, rfl, bs, e, h⟩ := one_inv h
  obtain ⟨v, rfl, r⟩ := rr.one_inv
  obtain ⟨a, vs, rfl, s, r'⟩ := seqL_of m e r
  rw [repL_bls r'] at s
  exact ⟨a, bs, rfl, s, P.val h m .b⟩
theorem c_any (hc : X.calm = true) : CallR X (.builtin "any") (lowC X.K (rBls fun bs => bs.any id)) := callU (cr_any hc) fun us xs H M q Q rr m h P => by
  obtain ⟨u, rfl, bs, e, h⟩ := one_inv h
  obtain ⟨v, rfl, r⟩ := rr.one_inv
  obtain ⟨a, vs, rfl, s, r'⟩ := seqL_of m e r
  rw [repL_bls r'] at s
  exact ⟨a, bs, rfl, s, P.val h m .b⟩
def rSumU : RC' := fun us M q => one us fun u => ∃ ns : List Int, seqL M u = some (ns.map U.int) ∧ q (.int ns.sum) M
theorem c_sum (hc : X.calm = true) : CallR X (.builtin "sum") (lowC X.K rSumU) := callU (cr_sum hc) fun us xs H M q Q rr m h P => by
  obtain ⟨u, rfl, ns, e, h⟩ := one_inv h
  obtain ⟨v, rfl, r⟩ := rr.one_inv
  obtain ⟨a, vs, rfl, s, r'⟩ := seqL_of m e r
  rw [repL_ints r'] at s
  exact ⟨a, ns, rfl, s, P.val h m .i⟩
def rMaxU : RC' := fun us M q => one us fun u => ∃ ns : List Int, seqL M u = some (ns.map U.int) ∧ 0 < ns.length ∧ ∀ k, k ∈ ns → (∀ y ∈ ns, y ≤ k) → q (.int k) M
theorem c_max1 (hc : X.calm = true) : CallR X (.builtin "max") (lowC X.K rMaxU) := callU (cr_max hc) fun us xs H M q Q rr m h P => by
  obtain ⟨u, rfl, ns, e, h0, h⟩ := one_inv h
  obtain ⟨v, rfl, r⟩ := rr.one_inv
  obtain ⟨a, vs, rfl, s, r'⟩ := seqL_of m e r
  rw [repL_ints r'] at s
  exact ⟨a, ns, rfl, s, h0, fun k hk hy => P.val (h k hk hy) m .i⟩
def rMinU : RC' := fun us M q => one us fun u => ∃ ns : List Int, seqL M u = some (ns.map U.int) ∧ 0 < ns.length ∧ ∀ k, k ∈ ns → (∀ y ∈ ns, k ≤ y) → q (.int k) M
theorem c_min1 (hc : X.calm = true) : CallR X (.builtin "min") (lowC X.K rMinU) := callU (cr_min hc) fun us xs H M q Q rr m h P => by
  obtain ⟨u, rfl, ns, e, h0, h⟩ := one_inv h
  obtain ⟨v, rfl, r⟩ := rr.one_inv
  obtain ⟨a, vs, rfl, s, r'⟩ := seqL_of m e r
  rw [repL_ints r'] at s
  exact ⟨a, ns, rfl, s, h0, fun k hk hy => P.val (h k hk hy) m .i⟩
def rAbs : RC' := fun us M q => one us fun u => asI u fun i => q (.int (if i < 0 then -i else i)) M
theorem c_abs : CallR X (.builtin "abs") (lowC X.K rAbs) := callU call_abs fun us xs H M q Q rr m h P => by
  obtain ⟨u, rfl, h⟩ := one_inv h
  obtain ⟨i, rfl, h⟩ := asI_inv h
  obtain ⟨v, rfl, r⟩ := rr.one_inv
  exact ⟨i, by rw [rint r], P.val h m .i⟩
end
end L3

set_option Elab.async false
set_option linter.all false
set_option maxRecDepth 100000
set_option maxHeartbeats 4000000
namespace L3
open PySem PySem.Spec L2
open PyProof.Rows hiding St
/-! ### lists that may change, read -/
theorem seqL_iter {M : Mp} {u : U} {xs : List U} {r : List U → (Mp → Prop) → Mp → Prop} (h : seqL M u = some xs) (hr : r xs (fun M' => seqL M' u = some xs) M) : iterQ u M r := ⟨by
  cases u with
  | lst ys => cases h; exact ⟨_, rfl, hr⟩
  | ref a => exact ⟨_, h, hr⟩
  | _ => cases h⟩
theorem Keep.seqL {d : Addr} {M M' : Mp} (k : Keep d M M') {u : U} {xs : List U} (h : L3.seqL M u = some xs) (hd : ∀ ys, M d ≠ some (.lst ys)) : L3.seqL M' u = some xs := by
  cases u with
  | ref a =>
    have h' : (match M a with | some (.lst xs) => some xs | _ => none) = some xs := h
    cases e : M a with
    | none => rw [e] at h'; cases h'
    | some o =>
      rw [e] at h'
      cases o with
      | lst ys =>
        cases h'
        refine seqL_ref (k a _ ?_ e)
        intro hh
        subst hh
        exact hd _ e
      | _ => cases h'
  | lst ys => exact h
  | _ => cases h
theorem seqL_A {M : Mp} {u : U} {xs : List U} (h : seqL M u = some xs) : seqA M u = some xs := by
  cases u with
  | lst ys => exact h
  | ref a => exact h
  | _ => cases h
theorem seqA_ty {M : Mp} {u : U} {xs : List U} (h : seqA M u = some xs) : tyN M u = some "tuple" ∨ tyN M u = some "list" := by
  cases u with
  | tup ys => exact .inl rfl
  | kt ys => exact .inl rfl
  | lst ys => exact .inr rfl
  | ref a =>
    have h' : (match M a with | some (.lst xs) => some xs | _ => none) = some xs := h
    cases e : M a with
    | none => rw [e] at h'; cases h'
    | some o =>
      rw [e] at h'
      cases o with
      | lst ys =>
        refine .inr ?_
        show (match M a with | some (.lst _) => some "list" | some (.dic false _ _) => some "dict" | some (.dic true false _) => some "dict" | _ => none) = _
        rw [e]
      | _ => cases h'
  | _ => cases h
end L3

set_option Elab.async false
set_option linter.all false
set_option maxRecDepth 100000
set_option maxHeartbeats 4000000
namespace L3
open PySem PySem.Spec L2
open PyProof.Rows hiding St
/-! ### a hook that looks at the interpreter's own table, too -/
def asY (g : Addr → Option Obj) (n : Nat) : List Addr := He.asD g n ++ [cStatics]
def obsY (n : Nat) (fa : List He.Fa) (fn : List He.DefD) (ex : Frag → Bool) (g : Addr → Option Obj) : He.AlD × Bool := (He.obsD fa fn (He.frT g (asY g n)), ex (He.frT g (asY g n)))
def hookY (n : Nat) (fa : List He.Fa) (fn : List He.DefD) (ex : Frag → Bool) : PySem.W.Hook where
  α := He.AlD × Bool
  obs := fun s => obsY n fa fn ex s.heap.get?
  val := fun _ => (He.valD fn, true)
  says := fun _ h => ∃ K : Frag, K.In h ∧ He.SaysD fa fn K ∧ ex K = true
  of := fun _ _ e => ⟨_, He.frT_in, congrArg (fun z : He.AlD × Bool => z.1) e, congrArg (fun z : He.AlD × Bool => z.2) e⟩
  keeps := fun _ _ _ ⟨K, hK, c⟩ k => ⟨K, PySem.W.Frag.In.keeps hK k, c⟩
theorem obsY_eq {n : Nat} {fa : List He.Fa} {fn : List He.DefD} {ex : Frag → Bool} {g : Addr → Option Obj} {s : Shared} (h : ∀ a, g a = s.heap.get? a) : obsY n fa fn ex g = (hookY n fa fn ex).obs s := by
  rw [show g = s.heap.get? from funext h] <;> rfl
/-- no token's sharing is left untold -/
def nbB (K : Frag) : Bool := match K.lookup cStatics with
  | some ⟨_, _, .dict es _, _⟩ => (nsFind es sharingNotToldKey).isNone
  | _ => false
theorem nbB_ok {K : Frag} {h : Heap} (b : nbB K = true) (k : K.In h) (nl : h.NoLimit) : NoneBooked h := by
  obtain ⟨mc, ⟨o, es, ep, e, d, sk, f⟩, _⟩ := nl
  refine ⟨mc, ⟨o, es, ep, e, d, sk, f⟩, ?_⟩
  unfold nbB at b
  cases q : K.lookup cStatics with
  | none => rw [q] at b; cases b
  | some o2 =>
    have e2 := k _ _ q
    rw [e] at e2
    cases e2
    rw [q] at b
    obtain ⟨oc, od, dt, sl⟩ := o
    have d' : dt = .dict es ep := d
    subst d'
    have b' : (nsFind es sharingNotToldKey).isNone = true := b
    rw [f] at b'
    exact Option.isNone_iff_eq_none.mp b'
/-! ### a call of a local name that holds a def -/
def eCallV (i : Nat) (S : List (Addr × Sp')) (W : WX') (ta : TA') : TE' := fun z M q => match getS z i with
  | some (.ref f) => ∃ sp, (f, sp) ∈ S ∧ ta z M fun us M1 => sp us M1 q fun C fs M2 => W C fs z M2
  | _ => False
section
variable {X : Cx} {k i : Nat} {x : Str} {p pos : Pos} {e : Expr} {es : List Expr} {W : WX'} {ta : TA'} {S : List (Addr × Sp')}
theorem qe_callV (D : ∀ q ∈ S, ∃ ps j, j ≤ k ∧ Def' X.prog X.w X.K X.mg X.base j q.1 ps q.2) (hr : Room k X.A) (hg : X.A.guards = some []) (tk : Takes X (lowW X.K W)) (ha : QA X (e :: es) ta)
    (hN : X.N[i]? = some x := by rfl) (hv : Vis X.env.scope x := by first | exact Or.inl rfl | exact Or.inr (Or.inl rfl) | exact Or.inr (Or.inr rfl)) (hdb : (x == ("__debug__" : Str)) = false := by decide) (hcd : (x == ("__classdict__" : Str)) = false := by decide)
    (he : starEach (e :: es) X.env = (false, eval e X.env) :: starEach es X.env := by rfl) (hpl : (backTo pos (starEach es X.env)).any (·.1) = false := by rfl) : QE X (.Call (.Name x p) (e :: es) [] pos) (eCallV i S W ta) := by
  refine ⟨fun pins s σ H Q I h => ?_⟩
  obtain ⟨z, M, q, hs, m, hq, P⟩ := h
  have hq' : ∃ f sp, getS z i = some (.ref f) ∧ (f, sp) ∈ S ∧ ta z M fun us M1 => sp us M1 q fun C fs M2 => W C fs z M2 := by
    unfold eCallV at hq
    cases g : getS z i with
    | none => rw [g] at hq; exact hq.elim
    | some u =>
      rw [g] at hq
      cases u with
      | ref f => obtain ⟨sp, h1, h2⟩ := hq; exact ⟨f, sp, rfl, h1, h2⟩
      | _ => exact (show False from hq).elim
  obtain ⟨f, sp, hz, hm, hta⟩ := hq'
  obtain ⟨ps, j, hj, D1⟩ := D _ hm
  obtain ⟨fd, b, F⟩ := D1.ex
  obtain ⟨v, hv1, hv2⟩ := hs.at_ i _ hz
  have ev := rref hv2
  subst ev
  refine wpAny_Call_Name_kw (thn ((pe_var (pos := p) hN hv hdb hcd).run pins s σ H (fun v H1 => v = .ref f ∧ H1 = H) I ⟨.ref f, hv1, rfl, rfl⟩) fun u s1 ⟨v, H1, I1, r1, q1⟩ => ?_)
  obtain ⟨rfl, rfl⟩ := q1
  cases r1
  refine PySem.W.callWith_K (h₀ := X.base) I1.ok.mod.kin D1.kp (thn (ha.run pos pins s1 σ H1 (fun vs H2 => lowSp X.K sp vs H2 Q (fun c d H' => lowW X.K W c d σ H')) I1 ⟨z, M, _, hs, m, hta, fun us M1 h1 vs H2 r m1 k1 => low_call r m1 (hs.keep k1.tk) (P.step k1) h1⟩) fun us s2 ⟨vs, H2, I2, r, q2⟩ => ⟨I2.kIn, run_fnG (us := us) F (hr.mono hj) hg b tk I2 r q2⟩) he hpl
end
/-! ### xs[lo:hi:step] of a list, by the places -/
def pickU (xs : List U) (lo hi st : Option Int) : List U := (PySem.sliceRange (PySem.sliceBounds lo hi st xs.length).1 (PySem.sliceBounds lo hi st xs.length).2.1 (PySem.sliceBounds lo hi st xs.length).2.2).filterMap (xs[·]?)
theorem RepL.fmap {K : Frag} {H : Hp} {us : List U} {vs : List V} (r : RepL K H us vs) : ∀ l : List Nat, RepL K H (l.filterMap (us[·]?)) (l.filterMap (vs[·]?))
  | [] => .nil
  | i :: l => by
    rw [List.filterMap_cons, List.filterMap_cons]
    cases e : us[i]? with
    | none =>
      have hl := r.len
      rw [List.getElem?_eq_none (l := vs) (by rw [← hl]; exact List.getElem?_eq_none_iff.mp e)]
      exact RepL.fmap r l
    | some u =>
      obtain ⟨v, hv, rv⟩ := r.get e
      rw [hv]
      exact .cons rv (RepL.fmap r l)
theorem vals_fmap {vs : List V} {us : List Value} (r : Vals vs us) : ∀ l : List Nat, Vals (l.filterMap (vs[·]?)) (l.filterMap (us[·]?))
  | [] => .nil
  | i :: l => by
    rw [List.filterMap_cons, List.filterMap_cons]
    cases e : vs[i]? with
    | none =>
      rw [List.getElem?_eq_none (l := us) (by rw [← r.length]; exact List.getElem?_eq_none_iff.mp e)]
      exact vals_fmap r l
    | some v =>
      obtain ⟨w, hw, rv⟩ := r.get e
      rw [hw]
      exact .cons rv (vals_fmap r l)
def pickV (xs : List V) (lo hi st : Option Int) : List V := (PySem.sliceRange (PySem.sliceBounds lo hi st xs.length).1 (PySem.sliceBounds lo hi st xs.length).2.1 (PySem.sliceBounds lo hi st xs.length).2.2).filterMap (xs[·]?)
theorem pe_slice3 {X : Cx} {e : Expr} {te : TE} {lo hi st : Option Expr} {tl th ts : TO} {p2 pos : Pos} (he : PE X e te) (hl : PO X lo tl) (hh : PO X hi th) (hst : PO X st ts)
    (hs3 : ∀ (a b : Addr), subscripted (.Slice lo hi st p2) false (.ref a) (.ref b) = operate [.ref a, .ref b] (getItem (.ref a) (.ref b)) := by intro _ _; with_unfolding_all rfl) :
    PE X (.Subscript e (.Slice lo hi st p2) pos) (fun σ H Q => te σ H fun x H1 => tl σ H1 fun l H2 => th σ H2 fun u H3 => ts σ H3 fun k H4 => ∃ a xs, x = .ref a ∧ SqL X.K H4 a xs ∧ k ≠ some 0 ∧ (pickV xs l u k).length ≤ sizeLine ∧ ∀ p, H4 p = none → Q (.ref p) (upd H4 p (.lst (pickV xs l u k)))) := by
  refine ⟨fun pins s σ H Q I h => ?_⟩
  refine Subscript_ (thn (he.run pins s σ H _ I h) fun v s1 ⟨x, H1, I1, r1, q1⟩ => ?_)
  refine wpAny_Slice (thn (hl.run pins s1 σ H1 _ I1 q1) fun vl s2 ⟨l, H2, I2, pl, q2⟩ => ?_)
  refine thn (hh.run pins s2 σ H2 _ I2 q2) fun vu s3 ⟨u, H3, I3, pu, q3⟩ => ?_
  refine thn (hst.run pins s3 σ H3 _ I3 q3) fun vs s4 ⟨k, H4, I4, ps, a, xs, ex, hx, hk, hz2, q⟩ => ?_
  subst ex
  cases r1
  have I5 : Inv X pins σ H4 { s4 with heap := s4.heap.push { cls := .type "slice", data := .fields #[vl, vu, vs] } } := I4.kept (t' := s4.toks) fun b ob q => Heap.get?_push_of_some _ q
  obtain ⟨its, r, ht, hz⟩ := I5.list hx
  have hlen := r.length
  show wpAny (model X.prog X.w) X.A (subscriptTail e (.Slice lo hi st p2) (.ref a) (.ref s4.heap.objs.size)) (EP X pins σ Q) X.xe { s4 with heap := s4.heap.push { cls := .type "slice", data := .fields #[vl, vu, vs] } }
  refine tail_any (ops := [.ref a, .ref s4.heap.objs.size]) ht.isList.typeIs (PySem.slot_list_getitem.lookup) ?_ (hs3 _ _)
  refine wpAny_getItem_list_slice ht.isList (Heap.IsSliceOf.new _ vl vu vs) pl pu ps hk ?_ (by rw [List.size_toArray]; omega)
  have hpick : slicePick its.toArray l u k = ((PySem.sliceRange (PySem.sliceBounds l u k xs.length).1 (PySem.sliceBounds l u k xs.length).2.1 (PySem.sliceBounds l u k xs.length).2.2).filterMap (its[·]?)).toArray := by
    unfold slicePick
    rw [List.size_toArray, ← hlen]
    simp
  rw [hpick]
  refine ⟨.ref _, _, I5.laid (t' := s4.toks) (o := .lst (pickV xs l u k)) (fun b ob q => Heap.get?_push_of_some _ q) (Nat.le_refl _) ?_, rfl, q _ (I5.hok.fresh (Nat.le_refl _))⟩
  exact ⟨hz2, _, 0, vals_fmap r _, Heap.get?_push_size _ rfl⟩
def eSl3 (te : TE') (tl th ts : TO') : TE' := fun z M q => te z M fun x M1 => tl z M1 fun lo M2 => th z M2 fun hi M3 => ts z M3 fun st M4 => st ≠ some 0 ∧ ∃ xs, seqL M4 x = some xs ∧ (pickU xs lo hi st).length ≤ sizeLine ∧ newL (pickU xs lo hi st) M4 q
theorem qe_slice3 {X : Cx} {e : Expr} {te : TE'} {lo hi st : Option Expr} {tl th ts : TO'} {p2 pos : Pos} (he : QE X e te) (hl : QO X lo tl) (hh : QO X hi th) (hst : QO X st ts)
    (hs3 : ∀ (a b : Addr), subscripted (.Slice lo hi st p2) false (.ref a) (.ref b) = operate [.ref a, .ref b] (getItem (.ref a) (.ref b)) := by intro _ _; with_unfolding_all rfl) : QE X (.Subscript e (.Slice lo hi st p2) pos) (eSl3 te tl th ts) :=
  imE (PE.fz (pe_slice3 he hl hh hst hs3)) fun σ H Q ⟨z, M, q, rs, m, h, P⟩ =>
  ⟨z, M, _, rs, m, h, fun x M1 h1 v H1 r1 m1 k1 => ⟨z, M1, _, rs.keep k1.tk, m1, h1, fun l M2 h2 H2 m2 k2 => ⟨z, M2, _, (rs.keep k1.tk).keep k2.tk, m2, h2, fun u M3 h3 H3 m3 k3 =>
    ⟨z, M3, _, ((rs.keep k1.tk).keep k2.tk).keep k3.tk, m3, h3, fun k M4 h4 H4 m4 k4 => by
      obtain ⟨hk, xs, e, hz, hq⟩ := h4
      have r4 := ((r1.keep k2.tk).keep k3.tk).keep k4.tk
      obtain ⟨a, vs, rfl, s, r⟩ := seqL_of m4 e r4
      have hl4 : pickV vs l u k = (PySem.sliceRange (PySem.sliceBounds l u k xs.length).1 (PySem.sliceBounds l u k xs.length).2.1 (PySem.sliceBounds l u k xs.length).2.2).filterMap (vs[·]?) := by unfold pickV; rw [← r.len]
      have rr : RepL X.K H4 (pickU xs l u k) (pickV vs l u k) := by rw [hl4]; exact r.fmap _
      exact ⟨a, vs, rfl, s, hk, by rw [← rr.len]; exact hz, fun p hp => newL_ok m4 rr hq (P.step (((k1.trans k2).trans k3).trans k4)) hp⟩⟩⟩⟩⟩
theorem fmap_congr {α β : Type} {f g : α → Option β} : ∀ {l : List α}, (∀ x ∈ l, f x = g x) → l.filterMap f = l.filterMap g
  | [], _ => rfl
  | x :: l, h => by
    rw [List.filterMap_cons, List.filterMap_cons, h x (List.mem_cons_self ..), fmap_congr fun y hy => h y (List.mem_cons_of_mem _ hy)]
/-- xs[:0:-1] -/
theorem pick_tailrev (xs : List U) : pickU xs none (some 0) (some (-1)) = xs.tail.reverse := by
  cases xs with
  | nil => rfl
  | cons x t =>
    unfold pickU
    have hb : PySem.sliceBounds none (some 0) (some (-1)) (x :: t).length = ((t.length : Int), 0, -1) := by
      unfold PySem.sliceBounds
      simp
      omega
    rw [hb]
    have hr : PySem.sliceRange (t.length : Int) 0 (-1) = (List.range t.length).map fun k => t.length - k := by
      unfold PySem.sliceRange
      have h1 : ¬ ((-1 : Int) > 0) := by decide
      rw [if_neg h1]
      by_cases h : (t.length : Int) > 0
      · rw [if_pos h]
        have e : ((t.length : Int) - 0 - -1 - 1) / (- -1) = (t.length : Int) := by
          rw [show (- -1 : Int) = 1 by decide, Int.ediv_one]
          omega
        rw [e]
        show List.map (fun (k : Nat) => ((t.length : Int) + -1 * (k : Int)).toNat) (List.range (Int.toNat (t.length : Int))) = _
        rw [Int.toNat_natCast]
        exact List.map_congr_left fun k hk => by
          have := List.mem_range.mp hk
          omega
      · have e : t.length = 0 := by omega
        rw [if_neg h, e]
        rfl
    show (PySem.sliceRange (t.length : Int) 0 (-1)).filterMap _ = t.reverse
    rw [hr, List.filterMap_map]
    have e2 : (List.range t.length).filterMap (((x :: t)[·]?) ∘ fun k => t.length - k) = ((List.range t.length).map fun k => t.length - 1 - k).filterMap (t[·]?) := by
      rw [List.filterMap_map]
      refine fmap_congr fun k hk => ?_
      have := List.mem_range.mp hk
      show (x :: t)[t.length - k]? = t[t.length - 1 - k]?
      rw [show t.length - k = (t.length - 1 - k) + 1 by omega, List.getElem?_cons_succ]
    rw [e2, PySem.W.krv_range, List.filterMap_reverse]
    have e3 := PySem.W.krv_all t.toArray
    simp at e3
    rw [e3]
/-! ### a line with more blanks: texts times numbers, replace -/
section
variable {X : Cx} {o e f : Expr} {to te tf : TE} {a y z : Str} {j0 j1 j2 : Nat} {c0 c1 c2 p0 p1 p2 apos pos : Pos}
/-- a written text times a number: its token is not an older one -/
theorem mul_tok {pins : List (Addr × Obj)} {σ : L2.St} {H : Hp} {s : Shared} {k : Int} {t tk n0 : Nat} {Q : Value → Shared → Prop} (ht : t < s.toks) (hn : n0 ≤ t) (hk : 1 ≤ k) (hk2 : k ≤ 1000000) (hz : z.length * k.toNat ≤ 10000000)
    (I : Inv X pins σ H s) (h : ∀ t' tk', n0 ≤ t' → Q (.str (repS z k.toNat) t') { s with toks := tk' }) : wpAny (model X.prog X.w) X.A (binaryOp .Mult (.str z t) (.int k tk)) Q X.xe s := by
  have hs : (sizeLine : Nat) = 16777216 := by decide
  refine P.mul_str (by rw [decide_eq_false (by omega), decide_eq_false (by omega)]; rfl) (fun hk' hn' => ?_) (fun hk' hn' => ?_) ?_
  · have hk1 : k ≠ 1 := by intro e; subst e; simp at hn'
    have hzl : z.length ≤ 10000000 := by
      have : z.length * 1 ≤ z.length * k.toNat := Nat.mul_le_mul_left _ (by omega)
      omega
    have : (10000000 : Int) ≤ (2 ^ 63 - 1) / k := by
      rw [Int.le_ediv_iff_mul_le (by omega)]
      omega
    omega
  · unfold Builtin.Str.tooLong
    exact decide_eq_false (by rw [hs]; omega)
  · rw [if_neg (by omega : ¬ k < 1)]
    by_cases hn' : (k == 1 || z.length == 0) = true
    · rw [if_pos hn']
      have e : repS z k.toNat = z := by
        simp only [Bool.or_eq_true, beq_iff_eq] at hn'
        rcases hn' with hn' | hn'
        · rw [hn']; exact repS_one z
        · exact repS_empty hn' _
      rw [e] at h
      exact h t s.toks hn
    · rw [if_neg hn', repS_eq]
      exact ⟨by rw [repS_len, Nat.mul_comm]; omega, h _ _ (by omega)⟩
def tLoose (te : TE) (to : TE) (tf : TE) (a y z : Str) : TE := fun σ H Q => te σ H fun n H1 => ∃ k : Int, n = .int k ∧ 0 ≤ k ∧ k ≤ 1000 ∧ a.length ≤ 1 ∧ z.length ≤ 1 ∧ to σ H1 fun v H2 => ∃ x : Str, v = .str x ∧ x.length ≤ 10000 ∧
  tf σ H2 fun m H3 => ∃ j : Int, m = .int j ∧ 1 ≤ j ∧ j ≤ 1000 ∧ Q (.str (repS a k.toNat ++ Txt.replace x y (repS z j.toNat))) H3
theorem pe_loose (nb : nbB X.K = true) (he : PE X e te) (ho : PE X o to) (hf : PE X f tf)
    (hst : starEach [.Constant (.str y) j1 c1, .BinOp (.Constant (.str z) j2 c2) .Mult f p2] X.env = [(false, eval (.Constant (.str y) j1 c1) X.env), (false, eval (.BinOp (.Constant (.str z) j2 c2) .Mult f p2) X.env)] := by rfl)
    (hbase : attributeBase o "replace" X.env (eval o X.env) = eval o X.env := by rfl) (hline : (apos.endLine == p1.line) = true := by rfl) :
    PE X (.BinOp (.BinOp (.Constant (.str a) j0 c0) .Mult e p0) .Add (.Call (.Attribute o "replace" apos) [.Constant (.str y) j1 c1, .BinOp (.Constant (.str z) j2 c2) .Mult f p2] [] p1) pos) (tLoose te to tf a y z) := by
  refine ⟨fun pins s σ H Q I h => ?_⟩
  have hsz : (sizeLine : Nat) = 16777216 := by decide
  refine wpAny_BinOp (wpAny_BinOp (Calls.Constant_str (wpAny_mono (PySem.wpAny_toks_of (n := s.toks + 1) (Nat.le_refl _) (he.run pins { s with toks := s.toks + 1 } σ H _ (I.tok _) h)) (fun n s1 q1 => ?_) fun _ _ z => z.2)))
  obtain ⟨hk1, nv, H1, I1, r1, k, rfl, k0, k1, ha1, hz1, q1⟩ := q1
  obtain ⟨tn, rfl⟩ := r1
  -- the first product
  refine wpAny_mono (PySem.wpAny_toks_of (n := s.toks + 1) hk1 (op_repS pins s1 σ H1 (.str a) (.int k) (.str a s.toks) (.int k tn) (fun v H' => v = .str (repS a k.toNat) ∧ H' = H1) I1 ⟨_, rfl⟩ ⟨_, rfl⟩ ⟨a, k, rfl, rfl, by omega, by omega, ?_, rfl, rfl⟩)) (fun w s2 q2 => ?_) fun _ _ z => z.2
  · have : a.length * k.toNat ≤ 1 * k.toNat := Nat.mul_le_mul_right _ ha1
    omega
  obtain ⟨hk2, wv, H2, I2, r2, rfl, rfl⟩ := q2
  -- replace
  refine PySem.Call_method2 hbase hst hline (wpAny_mono (PySem.wpAny_toks_of (n := s.toks + 1) hk2 (ho.run pins s2 σ H2 _ I2 q1)) (fun v s3 q3 => ?_) fun _ _ z => z.2)
  obtain ⟨hk3, vv, H3, I3, r3, x, rfl, hx, q3⟩ := q3
  obtain ⟨tx, rfl⟩ := r3
  refine ⟨"str", _, PySem.F.plainAttrs_str, PySem.F.slot_str_replace, PySem.F.type_str_replace, typeIs_str _ _ _, (fun _ e => nomatch e), Calls.callWith_builtin rfl (Calls.evalArgs_plain (Calls.spliced_cons ?_))⟩
  refine Calls.Constant_str (Calls.spliced_cons (wpAny_BinOp (Calls.Constant_str ?_)))
  refine wpAny_mono (PySem.wpAny_toks_of (n := s3.toks + 1 + 1) (Nat.le_refl _) (hf.run pins _ σ H3 _ (I3.tok (s3.toks + 1 + 1)) q3)) (fun m s4 q4 => ?_) fun _ _ z => z.2
  obtain ⟨hk4, mv, H4, I4, r4, j, rfl, j0, j1, q4⟩ := q4
  obtain ⟨tm, rfl⟩ := r4
  have hzj : z.length * j.toNat ≤ 1 * j.toNat := Nat.mul_le_mul_right _ hz1
  refine mul_tok (t := s3.toks + 1) (n0 := s3.toks + 1) hk4 (Nat.le_refl _) j0 (by omega) (by omega) I4 fun t' tk' ht' => ?_
  refine Calls.spliced_nil ?_
  have hlz : (repS z j.toNat).length ≤ 1000 := by rw [repS_len]; rw [Nat.mul_comm]; omega
  have hb1 : (x.length + 1) * (repS z j.toNat).length ≤ 10001 * 1000 := Nat.mul_le_mul (by omega) hlz
  have hb : x.length + (x.length + 1) * (repS z j.toNat).length ≤ 16777216 := by omega
  refine PySem.SC.replaceA (by show s3.toks ≠ (0 : Nat); omega) (by show t' ≠ (0 : Nat); omega) (by show s3.toks ≠ t'; omega) hb (fun t2 k2 => ?_) (nbB_ok nb I4.kIn I4.nolimit)
  have hl2 := TK.replace_len x y (repS z j.toNat)
  have hla : (repS a k.toNat).length ≤ 1000 := by
    rw [repS_len]
    have : k.toNat * a.length ≤ k.toNat * 1 := Nat.mul_le_mul_left _ ha1
    omega
  refine op_add_str pins _ σ H4 (.str (repS a k.toNat)) (.str (Txt.replace x y (repS z j.toNat))) w (.str (Txt.replace x y (repS z j.toNat)) t2) Q (I4.tok k2) r2 ⟨_, rfl⟩ ⟨_, _, rfl, rfl, ?_, q4⟩
  omega
end
section
variable {X : Cx} {o e f : Expr} {to te tf : TE'} {a y z : Str} {j0 j1 j2 : Nat} {c0 c1 c2 p0 p1 p2 apos pos : Pos}
def eLoose (te to tf : TE') (a y z : Str) : TE' := fun s M q => te s M fun n M1 => asI n fun k => 0 ≤ k ∧ k ≤ 1000 ∧ a.length ≤ 1 ∧ z.length ≤ 1 ∧ to s M1 fun v M2 => ∃ x, v = .str x ∧ x.length ≤ 10000 ∧ tf s M2 fun m M3 => asI m fun j => 1 ≤ j ∧ j ≤ 1000 ∧ q (.str (repS a k.toNat ++ Txt.replace x y (repS z j.toNat))) M3
theorem qe_loose (nb : nbB X.K = true) (he : QE X e te) (ho : QE X o to) (hf : QE X f tf)
    (hst : starEach [.Constant (.str y) j1 c1, .BinOp (.Constant (.str z) j2 c2) .Mult f p2] X.env = [(false, eval (.Constant (.str y) j1 c1) X.env), (false, eval (.BinOp (.Constant (.str z) j2 c2) .Mult f p2) X.env)] := by rfl)
    (hbase : attributeBase o "replace" X.env (eval o X.env) = eval o X.env := by rfl) (hline : (apos.endLine == p1.line) = true := by rfl) :
    QE X (.BinOp (.BinOp (.Constant (.str a) j0 c0) .Mult e p0) .Add (.Call (.Attribute o "replace" apos) [.Constant (.str y) j1 c1, .BinOp (.Constant (.str z) j2 c2) .Mult f p2] [] p1) pos) (eLoose te to tf a y z) :=
  imE (pe_loose nb he ho hf hst hbase hline) fun σ H Q ⟨z, M, q, rs, m, h, P⟩ => ⟨z, M, _, rs, m, h, fun x M1 h1 v H1 r1 m1 k1 => by
    obtain ⟨k, rfl, k0, k1', a1, z1, h1⟩ := asI_inv h1
    refine ⟨k, rint r1, k0, k1', a1, z1, z, M1, _, rs.keep k1.tk, m1, h1, fun x M2 h2 v H2 r2 m2 k2 => ?_⟩
    obtain ⟨x, rfl, hx, h2⟩ := h2
    refine ⟨x, rstr r2, hx, z, M2, _, (rs.keep k1.tk).keep k2.tk, m2, h2, fun u M3 h3 v H3 r3 m3 k3 => ?_⟩
    obtain ⟨j, rfl, j0, j1, h3⟩ := asI_inv h3
    exact ⟨j, rint r3, j0, j1, (P.step ((k1.trans k2).trans k3)).val h3 m3 .s⟩⟩
end
/-! ### tuple(range(..)), list(range(..)) -/
section
variable {X : Cx} {a b : Expr} {ta tb : TE'} {p p2 pos pos2 : Pos}
def eTupR (ta : TE') : TE' := fun z M q => ta z M fun x M1 => asI x fun n => 0 ≤ n ∧ n ≤ 16777216 ∧ newT (rangeU 0 n.toNat) M1 q
def eLstR (ta : TE') : TE' := fun z M q => ta z M fun x M1 => asI x fun n => 0 ≤ n ∧ n ≤ 16777216 ∧ newL (rangeU 0 n.toNat) M1 q
def eLstR2 (ta tb : TE') : TE' := fun z M q => ta z M fun x M1 => tb z M1 fun y M2 => asI x fun i => asI y fun j => 0 ≤ i ∧ i ≤ 16777216 ∧ 0 ≤ j ∧ j ≤ 16777216 ∧ newL (rangeU i (j - i).toNat) M2 q
theorem rgV_rep {K : Frag} {H : Hp} (i j : Int) : RepL K H (rangeU i (j - i).toNat) (rgV i j) := by
  have e1 : rangeU i (j - i).toNat = ((List.range (j - i).toNat).map fun k : Nat => i + (k : Int)).map U.int := by unfold rangeU; rw [List.map_map]; rfl
  have e2 : rgV i j = ((List.range (j - i).toNat).map fun k : Nat => i + (k : Int)).map V.int := by unfold rgV; rw [List.map_map]; rfl
  rw [e1, e2]
  exact repL_int _
theorem qe_tupR (hc : X.calm = true) (hm : X.mg "tuple" = none) (hr : X.mg "range" = none) (ha : QE X a ta) (hg : Gl X "tuple" := by rfl) (hg2 : Gl X "range" := by rfl) (n1 : starEach [a] X.env = (false, eval a X.env) :: starEach [] X.env := by rfl)
    (n2 : starEach [(.Call (.Name "range" p2) [a] [] pos2)] X.env = (false, eval (.Call (.Name "range" p2) [a] [] pos2) X.env) :: starEach [] X.env := by rfl) :
    QE X (.Call (.Name "tuple" p) [.Call (.Name "range" p2) [a] [] pos2] [] pos) (eTupR ta) := imE (pe_tupRg hc hg hm (prg_1 hg2 hr ha n1) n2) fun σ H Q ⟨z, M, q, rs, m, h, P⟩ => ⟨z, M, _, rs, m, h, fun x M1 h1 v H1 r1 m1 k1 => by
  obtain ⟨n, rfl, h0, h2, h3⟩ := asI_inv h1
  refine ⟨n, rint r1, .of_le (Int.le_refl 0) h2 (by decide) h0, fun p hp => ?_⟩
  have r := rgV_rep (K := X.K) (H := H1) 0 n
  rw [Int.sub_zero] at r
  exact newT_ok m1 r h3 (P.step k1) hp⟩
theorem qe_lstR (hc : X.calm = true) (hm : X.mg "list" = none) (hr : X.mg "range" = none) (ha : QE X a ta) (hg : Gl X "list" := by rfl) (hg2 : Gl X "range" := by rfl) (n1 : starEach [a] X.env = (false, eval a X.env) :: starEach [] X.env := by rfl)
    (n2 : starEach [(.Call (.Name "range" p2) [a] [] pos2)] X.env = (false, eval (.Call (.Name "range" p2) [a] [] pos2) X.env) :: starEach [] X.env := by rfl) :
    QE X (.Call (.Name "list" p) [.Call (.Name "range" p2) [a] [] pos2] [] pos) (eLstR ta) := imE (PE.fz (pe_listRg hc hg hm (prg_1 hg2 hr ha n1) n2)) fun σ H Q ⟨z, M, q, rs, m, h, P⟩ => ⟨z, M, _, rs, m, h, fun x M1 h1 v H1 r1 m1 k1 => by
  obtain ⟨n, rfl, h0, h2, h3⟩ := asI_inv h1
  refine ⟨n, rint r1, .of_le (Int.le_refl 0) h2 (by decide) h0, fun p hp => ?_⟩
  have r := rgV_rep (K := X.K) (H := H1) 0 n
  rw [Int.sub_zero] at r
  exact newL_ok m1 r h3 (P.step k1) hp⟩
theorem qe_lstR2 (hc : X.calm = true) (hm : X.mg "list" = none) (hr : X.mg "range" = none) (ha : QE X a ta) (hb : QE X b tb) (hg : Gl X "list" := by rfl) (hg2 : Gl X "range" := by rfl) (n1 : starEach [a, b] X.env = (false, eval a X.env) :: starEach [b] X.env := by rfl) (n1b : starEach [b] X.env = (false, eval b X.env) :: starEach [] X.env := by rfl)
    (hp2 : (backTo pos2 (starEach [b] X.env)).any (·.1) = false := by rfl)
    (n2 : starEach [(.Call (.Name "range" p2) [a, b] [] pos2)] X.env = (false, eval (.Call (.Name "range" p2) [a, b] [] pos2) X.env) :: starEach [] X.env := by rfl) :
    QE X (.Call (.Name "list" p) [.Call (.Name "range" p2) [a, b] [] pos2] [] pos) (eLstR2 ta tb) := imE (PE.fz (pe_listRg hc hg hm (prg_2 hg2 hr ha hb n1 n1b hp2) n2)) fun σ H Q ⟨z, M, q, rs, m, h, P⟩ => ⟨z, M, _, rs, m, h, fun x M1 h1 v H1 r1 m1 k1 => ⟨z, M1, _, rs.keep k1.tk, m1, h1, fun y M2 h2 v2 H2 r2 m2 k2 => by
  obtain ⟨i, rfl, h4⟩ := asI_inv h2
  obtain ⟨j, rfl, a1, a2, a3, a4, h3⟩ := asI_inv h4
  refine ⟨i, j, rint r1, rint r2, .of_le a1 a4 a2 a3, fun p hp => ?_⟩
  exact newL_ok m2 (rgV_rep (K := X.K) (H := H2) i j) h3 (P.step (k1.trans k2)) hp⟩⟩
end
end L3

set_option Elab.async false
set_option linter.all false
set_option maxRecDepth 100000
set_option maxHeartbeats 4000000
namespace L3
open PySem PySem.Spec L2
open PyProof.Rows hiding St
/-! ### tuples times numbers -/
theorem tup_mul0 (l : Addr) (items : Array Value) (n : Nat) (dd : Option Addr) (sl : Array (Option Value)) (u : Tok) (ce : items.isEmpty = false) :
    Meets (Builtin.«tuple.__mul__» ⟨[.ref l, .int 0 u], []⟩) (fun _ R s => s.heap.get? l = some { cls := .type "tuple", dict := dd, data := .seq items n, slots := sl } ∧
      R (.ok (.ret (Value.ref s.heap.objs.size))) { s with heap := s.heap.push { cls := Value.type "tuple", data := Data.seq #[] }, toks := s.toks }) :=
  .of_wp fun prog w A R s h => by
    obtain ⟨hp, g, d, tk, os⟩ := s
    obtain ⟨hl, h⟩ := h
    have f1 := AutoSeq1.idx_int
    have c1 : (items.isEmpty || (0 : Int) == 1) = false := by rw [ce]; rfl
    wp_walk using wpAny_loadPart' hl
    repeat (first
      | (refine wpAny_ite_false (decide_eq_false (by rw [c1]; exact Bool.false_ne_true)) ?_; wp_walk using wpAny_loadPart' hl)
      | (refine wpAny_ite_false (decide_eq_false (by decide)) ?_; wp_walk using wpAny_loadPart' hl)
      | (refine wpAny_ite_true (decide_eq_true (by rfl)) ?_; wp_walk using wpAny_loadPart' hl))
    exact ⟨_, rfl, h⟩
section
variable {X : Cx}
theorem op_repT0 : OpR X (binaryOp .Mult) (fun x y H Q => ∃ l xs, x = .ref l ∧ y = .int 0 ∧ SqT X.K H l xs ∧ xs ≠ [] ∧ ∀ p, H p = none → Q (.ref p) (upd H p (.tup []))) := by
  intro pins s σ H x y v u Q I rx ry h
  obtain ⟨l, xs, rfl, rfl, hT, hne, q⟩ := h
  cases rx
  obtain ⟨t, rfl⟩ := ry
  obtain ⟨its, r, ⟨⟨cls, dd, data, sl⟩, ho, hc, n, hd⟩, hs⟩ := I.tuple hT
  simp only at hc hd
  subst hc hd
  have hle : its.length = xs.length := r.length.symm
  have hi : its.toArray.isEmpty = false := by
    cases its with
    | nil => exact absurd (List.eq_nil_of_length_eq_zero hle.symm) hne
    | cons a b => rfl
  refine wpAny_binaryOp_repeat_ref (T := "tuple") (U := "int") (by decide) ⟨_, ho, rfl⟩ (fun s' => typeIs_int s' 0 t) noFill_tuple_mul F.fills_int_mul F.slot_int_rmul repeat_tuple F.slot_int_index.lookup
    (call_meets F.slot_int_rmul (typeIs_int s 0 t) F.entry_int_rmul (F.args_int_rmul_2 _ _) (int_rmul_tuple 0 t l its.toArray n dd sl)
      ⟨ho, rfl, ⟨_, ho, rfl⟩, call_meets F.slot_tuple_mul ⟨_, ho, rfl⟩ F.entry_tuple_mul (F.args_tuple_mul_2 _ _) (tup_mul0 l its.toArray n dd sl t hi) ⟨ho, ?_⟩⟩)
  refine ⟨.ref s.heap.objs.size, _, I.laid (t' := s.toks) (o := .tup []) (fun b ob q => Heap.get?_push_of_some _ q) (Nat.le_refl _) ?_, rfl, q _ (I.hok.fresh (Nat.le_refl _))⟩
  exact ⟨Nat.zero_le _, [], .nil, IsTup.new _ _⟩
def rMulT : R2' := fun x y M q => ∃ xs k, seqT x = some xs ∧ y = .int k ∧ xs ≠ [] ∧ ((k = 0 ∧ q (.tup []) M) ∨ (2 ≤ k ∧ k ≤ 1000 ∧ xs.length ≤ 1000 ∧ q (.tup (List.replicate k.toNat xs).flatten) M))
theorem o_mulT : OpR X (binaryOp .Mult) (lowR X.K rMulT) := opU (op_repT0.or op_repT) fun u w x y H M q Q ru rw' m hq P => by
  obtain ⟨xs, k, e, rfl, hne, h⟩ := hq
  obtain ⟨a, vs, rfl, s, r⟩ := seqT_of e ru
  have hv : vs ≠ [] := fun z => hne (List.eq_nil_of_length_eq_zero (by rw [r.len, z]; rfl))
  rcases h with ⟨rfl, h⟩ | ⟨h1, h2, h3, h⟩
  · exact .inl ⟨a, vs, rfl, rint rw', s, hv, fun p hp => newT_ok m .nil (.inl h) P hp⟩
  · exact .inr ⟨a, k, vs, rfl, rint rw', s, hv, h1, h2, by rw [← r.len]; exact h3, fun p hp => newT_ok m (r.rep k.toNat) (.inl h) P hp⟩
end
end L3

set_option Elab.async false
set_option linter.all false
set_option maxRecDepth 100000
set_option maxHeartbeats 4000000
namespace L3
open PySem PySem.Spec L2
open PyProof.Rows hiding St
/-! ### exceptions: what the written part says of their classes -/
structure XcC (K : Frag) (C : Addr) : Prop where
  hc : (PySem.W.clsIn K C).isSome = true
  hg : PySem.W.findIn K (.ref C) "__getattribute__" = some (some (.builtin "BaseException.__getattribute__"))
  hk : PySem.W.findIn K (.ref C) "__getattr__" = some none
  hs : PySem.W.subIn K (.ref C) (.type "BaseException") = some true
  hd : PySem.W.hasDictIn K C = true
  ha : PySem.W.findIn K (.ref C) "__class__" = some (some (.builtin "object.__class__"))
  hn : PySem.W.specialIn K (.builtin "object.__class__") "__get__" = some (some (.builtin "getset_descriptor.__get__"))
  ht : PySem.W.takesIn K (.builtin "object.__class__") = some true
  hm : PySem.W.mroIn K C (.type "object") = some true
def xcB (K : Frag) (C : Addr) : Bool :=
  (PySem.W.clsIn K C).isSome && (decide (PySem.W.findIn K (.ref C) "__getattribute__" = some (some (.builtin "BaseException.__getattribute__"))) && (decide (PySem.W.findIn K (.ref C) "__getattr__" = some none) &&
  (decide (PySem.W.subIn K (.ref C) (.type "BaseException") = some true) && (PySem.W.hasDictIn K C && (decide (PySem.W.findIn K (.ref C) "__class__" = some (some (.builtin "object.__class__"))) &&
  (decide (PySem.W.specialIn K (.builtin "object.__class__") "__get__" = some (some (.builtin "getset_descriptor.__get__"))) && (decide (PySem.W.takesIn K (.builtin "object.__class__") = some true) && decide (PySem.W.mroIn K C (.type "object") = some true))))))))
theorem xcB_ok {K : Frag} {C : Addr} (h : xcB K C = true) : XcC K C := by
  unfold xcB at h
  simp only [Bool.and_eq_true, decide_eq_true_eq] at h
  obtain ⟨h1, h2, h3, h4, h5, h6, h7, h8, h9⟩ := h
  exact ⟨h1, h2, h3, h4, h5, h6, h7, h8, h9⟩
/-! ### an object that is there is known from now on -/
section
variable {X : Cx} {pins : List (Addr × Obj)} {σ : L2.St} {H : Hp} {s : Shared}
theorem Inv.adopt {a : Addr} {oe : Obj} (I : Inv X pins σ H s) (he : s.heap.get? a = some oe) (na : H a = none) (n0 : X.s_0.heap.get? a = none) (nL : a ≠ X.env.locals) (nc : ∀ x c, X.env.cells.lookup x = some c → c ≠ a) (np : ∀ p ∈ X.pn ++ pins, p.1 ≠ a) :
    Inv X pins σ (upd H a (xcT a oe)) s := by
  have n1 : ∀ b o, X.s_0.heap.get? b = some o → b ≠ a := fun b o e z => by rw [z, n0] at e; cases e
  have n2 : ∀ b o, H b = some o → b ≠ a := fun b o e z => by rw [z, na] at e; cases e
  refine ⟨I.ok, I.os, I.bare, ⟨I.base.keep, I.base.slot, fun b o e n hx => ?_, I.base.there, fun b xs e => ?_, fun b o u e => ?_, fun b ps e => ?_⟩, I.loc, I.cell, ?_, fun x c e => ?_, fun p hp => ?_, fun b u e => ?_, I.len⟩
  · rw [upd_ne (n1 b o e)]; exact I.base.free b o e n hx
  · have q := I.base.tups b xs e
    rw [upd_ne (n2 _ _ q)]; exact q
  · have q := I.base.frzs b o u e
    rw [upd_ne (n2 _ _ q)]; exact q
  · obtain ⟨m, q⟩ := I.base.tbls b ps e
    exact ⟨m, by rw [upd_ne (n2 _ _ q)]; exact q⟩
  · rw [upd_ne (Ne.symm nL)]; exact I.free
  · rw [upd_ne (nc x c e)]; exact I.freeC x c e
  · obtain ⟨h1, h2, h3, h4, h5⟩ := I.pin p hp
    exact ⟨h1, by rw [upd_ne (np p hp)]; exact h2, h3, h4, h5⟩
  · by_cases z : b = a
    · subst z
      rw [upd_same] at e
      cases e
      exact ⟨he, he, ⟨oe, he⟩, fun h1 h2 q k => k _ q⟩
    · rw [upd_ne z] at e
      exact (I.hok b u e).stay (fun c v _ q => q) (fun c q => by rw [upd_ne (n2 _ _ q)]; exact q) fun c xs q => by rw [upd_ne (n2 _ _ q)]; exact q
/-- an exception's dict is known from now on -/
theorem Inv.lockX {d : Addr} {l : List (Str × V)} (I : Inv X pins σ H s) (h : H d = some (.xd l)) : ∃ od, Inv X pins σ (upd H d (.frz od (.xd l))) s := by
  have x := I.hok d _ h
  obtain ⟨od, ho⟩ : ∃ od, s.heap.get? d = some od := by
    obtain ⟨mA, ⟨o, es, ep, e, r⟩, _⟩ := x
    exact ⟨o, e⟩
  have n1 : ∀ b, H b = none → b ≠ d := fun b e z => by rw [z, h] at e; cases e
  have n2 : ∀ b xs, H b = some (.tup xs) → b ≠ d := fun b o e z => by rw [z, h] at e; cases e
  have n3 : ∀ b o u, H b = some (.frz o u) → b ≠ d := fun b o u e z => by rw [z, h] at e; cases e
  have n4 : ∀ b ps, H b = some (.tbl ps) → b ≠ d := fun b o e z => by rw [z, h] at e; cases e
  have n5 : ∀ b c, H b = some (.own c) → b ≠ d := fun b o e z => by rw [z, h] at e; cases e
  refine ⟨od, I.ok, I.os, I.bare, ⟨I.base.keep, I.base.slot, fun b o e n hx => ?_, I.base.there, fun b xs e => ?_, fun b o u e => ?_, fun b ps e => ?_⟩, I.loc, I.cell, ?_, fun x c e => ?_, fun p hp => ?_, fun b u e => ?_, I.len⟩
  · have q := I.base.free b o e n hx
    rw [upd_ne (n1 _ q)]; exact q
  · have q := I.base.tups b xs e
    rw [upd_ne (n2 _ _ q)]; exact q
  · have q := I.base.frzs b o u e
    rw [upd_ne (n3 _ _ _ q)]; exact q
  · obtain ⟨m, q⟩ := I.base.tbls b ps e
    exact ⟨m, by rw [upd_ne (n4 _ _ q)]; exact q⟩
  · rw [upd_ne (n1 _ I.free)]; exact I.free
  · rw [upd_ne (n1 _ (I.freeC x c e))]; exact I.freeC x c e
  · obtain ⟨h1, h2, h3, h4, h5⟩ := I.pin p hp
    exact ⟨h1, by rw [upd_ne (n1 _ h2)]; exact h2, h3, h4, h5⟩
  · by_cases z : b = d
    · subst z
      rw [upd_same] at e
      cases e
      exact ⟨ho, x.stay (fun c v _ q => q) (fun c q => by rw [upd_ne (n5 _ _ q)]; exact q) fun c xs q => by rw [upd_ne (n2 _ _ q)]; exact q⟩
    · rw [upd_ne z] at e
      exact (I.hok b u e).stay (fun c v _ q => q) (fun c q => by rw [upd_ne (n5 _ _ q)]; exact q) fun c xs q => by rw [upd_ne (n2 _ _ q)]; exact q
end
/-! ### isinstance of an exception that is held -/
def cvU : U → Option Value
  | .ref D => some (.ref D)
  | .ty n => some (.type n)
  | _ => none
theorem RX.inst {K : Frag} {P : Program} {w : World} {H : Hp} {h : Heap} {a C : Addr} {fs : List (Str × U)} (r : RX K H a C fs) (hok : HOk P w H h) : ∃ oe od, PySem.W.InstAt h a oe C od := by
  obtain ⟨oe, h1, h2, ⟨vs, h3⟩, h4⟩ := r
  obtain ⟨hget, _⟩ := hok a _ h1
  have hno : PySem.W.notCls oe = true := by unfold PySem.W.notCls; rw [h3] <;> rfl
  rcases h4 with ⟨_, e⟩ | ⟨dd, od, l, e, e2, _⟩
  · exact ⟨oe, none, hget, h2, hno, by rw [e]; trivial⟩
  · obtain ⟨hd, _⟩ := hok dd _ e2
    exact ⟨oe, some od, hget, h2, hno, by rw [e]; exact hd⟩
def rIsX (K : Frag) : RC' := fun us M q => two us fun u c => ∃ a C fs cv b, u = .ref a ∧ M a = some (.exc C fs) ∧ XcC K C ∧ cvU c = some cv ∧ PySem.W.kitOne K (.ref C) cv = some b ∧ q (.bl b) M
theorem c_isX {X : Cx} : CallR X (.builtin "isinstance") (lowC X.K (rIsX X.K)) := by
  rintro pins s σ H xs us Q I r ⟨ws, M, q, rr, m, h, P⟩
  obtain ⟨u, c, rfl, a, C, fs, cv, b, rfl, hM, T, hc, hk, hq⟩ := two_inv h
  obtain ⟨v, y, rfl, r1, r2⟩ := rr.two_inv
  have ev := rref r1
  subst ev
  cases r with
  | cons rx rr2 =>
    cases rr2 with
    | cons rt rr3 =>
      cases rr3
      cases rx
      obtain ⟨oe, od, J⟩ := RX.inst (m a _ hM) I.hok
      have ec : ∀ w, RelV y w → w = cv := fun w rw' => by
        cases c with
        | ref D =>
          cases hc
          have := rref r2
          subst this
          cases rw'
          rfl
        | ty n =>
          cases hc
          have := rty r2
          subst this
          cases rw'
          rfl
        | _ => cases hc
      have ec2 := ec _ rt
      subst ec2
      exact PySem.W.kia_one (PySem.W.kitx_exc T.hc T.hg T.hk T.hs T.ha T.hn T.ht T.hm) I.kIn J hk (fun z => nomatch z) fun tk => ⟨.bl b, H, I.kept (t' := tk) fun _ _ z => z, rfl, P.val hq m .b⟩
/-! ### a field of an exception that is held -/
def eFldX (K : Frag) (to : TE') (f : Str) : TE' := fun z M q => to z M fun x M1 => ∃ a C fs v, x = .ref a ∧ M1 a = some (.exc C fs) ∧ XcC K C ∧ PySem.W.findIn K (.ref C) f = some none ∧ fs.lookup f = some v ∧ q v M1
theorem qe_fldX {X : Cx} {o : Expr} {to : TE'} {f : Str} {pos : Pos} (ho : QE X o to) (hb : attributeBase o f X.env (eval o X.env) = eval o X.env := by rfl) : QE X (.Attribute o f pos) (eFldX X.K to f) := by
  refine ⟨fun pins s σ H Q I h => ?_⟩
  obtain ⟨z, M, q, rs, m, h, P⟩ := h
  refine attr_of hb (thn (ho.run pins s σ H (fun v H1 => ∃ (x : U) (M1 : Mp), Rep X.K H1 x v ∧ RM X.K H1 M1 ∧ SK H M H1 M1 ∧ ∃ a C fs w, x = .ref a ∧ M1 a = some (.exc C fs) ∧ XcC X.K C ∧ PySem.W.findIn X.K (.ref C) f = some none ∧ fs.lookup f = some w ∧ q w M1) I
    ⟨z, M, _, rs, m, h, fun u M1 h1 v H1 r1 m1 k1 => ⟨u, M1, r1, m1, k1, h1⟩⟩) fun u s1 hh => ?_)
  obtain ⟨v, H1, I1, rv, x, M1, r1, m1, k1, a, C, fs, w, rfl, hM, T, hno, hl, hq⟩ := hh
  have ev := rref r1
  subst ev
  obtain rfl : u = Value.ref a := rv
  obtain ⟨oe, h1, h2, ⟨vs, h3⟩, h4⟩ := m1 a _ hM
  rcases h4 with ⟨e, _⟩ | ⟨dd, od, l, e, e2, e3, re⟩
  · rw [e] at hl; cases hl
  · obtain ⟨hget, _⟩ := I1.hok a _ h1
    obtain ⟨hgd, hx⟩ := I1.hok dd _ e2
    obtain ⟨mA, hns, hr⟩ := hx
    obtain ⟨od', ho', hlk⟩ := lookIn_ns hns
    rw [hgd] at ho'
    cases ho'
    have ro := RepL.look (f := f) e3 re
    rw [hl] at ro
    obtain ⟨y, hy, ry⟩ := ro.get
    obtain ⟨u2, hu2, ru2⟩ := RelO.some_of (v := y) (o := mA f) (by rw [← hy]; exact hr f)
    have J : PySem.W.InstAt s1.heap a oe C (some od) := ⟨hget, h2, by unfold PySem.W.notCls; rw [h3] <;> rfl, by rw [e]; exact hgd⟩
    exact HandSPX.exc_get I1.kIn J T.hg T.hk T.hs (PySem.W.findObj_own T.hd hno rfl (by rw [hlk, hu2])) (handed_of ru2) ⟨y, H1, I1.tok _, ru2, P w M1 hq y H1 ry m1 k1⟩
end L3

set_option Elab.async false
set_option linter.all false
set_option maxRecDepth 100000
set_option maxHeartbeats 4000000
namespace L3
open PySem PySem.Spec L2
open PyProof.Rows hiding St
/-! ### raise C(), C() -/
structure XrC (K : Frag) (C : Addr) : Prop where
  ex : PySem.W.excIn K C He.veBase "ValueError.__new__" = true
  kp : PySem.W.keepIn K (.ref C) = true
  sb : PySem.W.subIn K (.ref C) (.type "BaseException") = some true
  ty : PySem.W.typeIn K (.ref C) = some (.type "type")
theorem xrC_of {K : Frag} {x : Str} (c : (He.Fa.exc x).ok K = true) : XrC K (He.ga K x) := by
  obtain ⟨h1, h2, h3, h4⟩ := He.exc_ok c
  exact ⟨h1, h2, h3, h4⟩
def sRaise (C : Addr) (W : WX') : TS' := fun _ z M => W C [] z M
section
variable {X : Cx} {C : Addr} {x : Str} {p pos pos' : Pos} {W : WX'}
theorem pmk_own0 (E : XrC X.K C) (gC : X.mg x = some (.ref C)) (hg : Gl X x) (hdb : (x == ("__debug__" : Str)) = false := by decide) : PMk X (.Call (.Name x p) [] [] pos) (fun σ H Q => Q (.ref C) none H) := by
  intro pins s σ H Q I h
  refine wpAny_Call_Name_kw (ld_glob I hg gC ?_ hdb)
  refine PySem.W.callWith_K0 I.kIn E.kp ?_
  obtain ⟨bm, N, nm, qn, bs, hdct, sn, sub, ab, col, dd, k0, k1, k2, k3, k5, mN, hC, hN, hni, T⟩ := exc_obj I.kIn E.ex
  exact wpAny_call_exc_subT F.excBase_ValueError T hC hN hni (fun h' e hm => mk_of I hm (raises_own E.sb E.ty) h (I.hok.gone hm.new)) (Nat.zero_le _)
theorem qs_raise0 (hc : X.calm = true) (tk : Takes X (lowW X.K W)) (E : XrC X.K C) (gC : X.mg x = some (.ref C)) (hg : Gl X x := by rfl) (hdb : (x == ("__debug__" : Str)) = false := by decide) :
    QS X (.Raise (some (.Call (.Name x p) [] [] pos)) none pos') (sRaise C W) := imS (ps_raise hc tk (pmk_own0 E gC hg hdb)) fun D σ H ⟨z, M, d, rs, m, h, P⟩ =>
  ⟨C, [], z, M, ⟨rfl, .inl ⟨rfl, rfl⟩⟩, rs, m, h⟩
/-- C() as a thing that is held -/
def eMkX (C : Addr) : TE' := fun _ M q => ∀ a, M a = none → q (.ref a) (put M a (.exc C []))
theorem qe_mkX (E : XrC X.K C) (gC : X.mg x = some (.ref C)) (hg : Gl X x := by rfl) (hdb : (x == ("__debug__" : Str)) = false := by decide) : QE X (.Call (.Name x p) [] [] pos) (eMkX C) := by
  refine ⟨fun pins s σ H Q I h => ?_⟩
  obtain ⟨z, M, q, rs, m, h, P⟩ := h
  refine wpAny_Call_Name_kw (ld_glob I hg gC ?_ hdb)
  refine PySem.W.callWith_K0 I.kIn E.kp ?_
  obtain ⟨bm, N, nm, qn, bs, hdct, sn, sub, ab, col, dd, k0, k1, k2, k3, k5, mN, hC, hN, hni, T⟩ := exc_obj I.kIn E.ex
  refine wpAny_call_exc_subT F.excBase_ValueError T hC hN hni (fun h' a hm => ?_) (Nat.zero_le _)
  obtain ⟨t, he, _, _⟩ := hm.there
  have na : H a = none := I.hok.gone hm.new
  refine ⟨.ref a, upd H a (xcT a _), I.laidN (t' := s.toks) hm.keeps hm.new na ⟨he, he, ⟨_, he⟩, fun h1 h2 q k => k _ q⟩, rfl, ?_⟩
  refine P _ _ (h a (m.fresh na)) _ _ .r (m.new (mo := .exc C []) na ⟨_, upd_same, rfl, ⟨_, rfl⟩, .inl ⟨rfl, rfl⟩⟩) (.new na)
end
/-! ### classes whose own __init__ keeps one field -/
def spI (K : Frag) (f : Str) : Sp := fun vs H Q _ => ∃ (a C : Addr) (v : V), vs = [.ref a, v] ∧ OexC K C ∧ PySem.W.findIn K (.ref C) f = some none ∧ H a = some (exo a C none) ∧
  ∀ dx, H dx = none → dx ≠ a → Q .non (upd (upd H dx (exd dx [(f, v)])) a (exo a C (some dx)))
abbrev CX0 : CXT := fun _ _ _ _ _ _ => False
/-- a class: its own __init__ -/
structure XiC (P : Program) (w : World) (K : Frag) (mg : Str → Option Value) (base : Heap) (C : Addr) (f : Str) : Prop where
  T : OexC K C
  no : PySem.W.findIn K (.ref C) f = some none
  ini : ∃ (fI : Addr) (fd : FuncData) (ps : List Str), PySem.W.findIn K (.ref C) "__init__" = some (some (.ref fI)) ∧ PySem.W.typeIn K (.ref fI) = some (.type "function") ∧ FnOk P w K mg base CX0 1 fI fd ps (spI K f) ∧ Binds K fd ps []
def oexB (K : Frag) (C : Addr) : Bool := (match K.lookup C with
  | some ⟨.type "type", _, .cls cd, sl⟩ => (match cd.mro, sl.toList with
    | .ref C' :: bm, [_, _, _, _, some (.builtin n), _] => C' == C && (n == "ValueError.__new__" && (!cd.hasDel && (cd.hasDict && HandSPX.refsVE bm)))
    | _, _ => false)
  | _ => false) && (decide (PySem.W.findIn K (.ref C) "__setattr__" = some (some (.builtin "object.__setattr__"))) && (decide (PySem.W.subIn K (.ref C) (.type "BaseException") = some true) && (decide (PySem.W.typeIn K (.ref C) = some (.type "type")) && PySem.W.keepIn K (.ref C))))
theorem oexB_ok {K : Frag} {C : Addr} (h : oexB K C = true) : OexC K C := by
  unfold oexB at h
  rw [Bool.and_eq_true] at h
  obtain ⟨q, h⟩ := h
  simp only [Bool.and_eq_true, decide_eq_true_eq] at h
  obtain ⟨h2, h3, h4, h5⟩ := h
  refine ⟨?_, h2, h3, h4, h5⟩
  split at q
  · rename_i dd cd sl ho
    split at q
    · rename_i C' bm k0 k1 k2 k3 n k5 hm hs
      simp only [Bool.and_eq_true, beq_iff_eq, Bool.not_eq_true'] at q
      obtain ⟨rfl, rfl, hdel, hdict, hv⟩ := q
      obtain ⟨nm, bs, mro, ns, qn, hd, sn, sub, ab, col, del⟩ := cd
      dsimp only at hm hdel hdict
      subst hm hdel hdict
      have hsl : sl = #[k0, k1, k2, k3, some (.builtin "ValueError.__new__"), k5] := by
        obtain ⟨l⟩ := sl
        simp only at hs
        rw [hs]
      subst hsl
      exact ⟨nm, qn, ns, bs, bm, sn, sub, ab, col, dd, k0, k1, k2, k3, k5, ho, hv⟩
    · cases q
  · cases q
/-- a class with an own __init__ of one field: what the written part must say -/
def xiB (K : Frag) (x f : Str) : Bool := oexB K (He.ga K x) && (decide (PySem.W.findIn K (.ref (He.ga K x)) f = some none) && (decide (PySem.W.findIn K (.ref (He.ga K x)) "__init__" = some (some (.ref (He.ma K (He.ga K x) "__init__")))) && decide (PySem.W.typeIn K (.ref (He.ma K (He.ga K x) "__init__")) = some (.type "function"))))
/-- def __init__(self, f): self.f = f -/
theorem fnI {P : Program} {w : World} {K : Frag} {mg : Str → Option Value} {base : Heap} {f : Addr} {fd : FuncData} {x qual s0 f0 : Str} {st : Stmt} (F : Fun K x qual st f fd) (S : FnScope [s0, f0] [s0, f0] (defScope st))
    (hb : ∀ (cdv : Value) (A : Around) (outer : List Env) (s : Shared) (H : Hp) (E : XK), PSs (cxOf CX0 P w K mg base [s0, f0] qual (defScope st) f cdv A outer s H E) (defBody st) (tOst K f0 (tVar 0) (tVar 1))) :
    FnOk P w K mg base CX0 1 f fd [s0, f0] (spI K f0) := by
  obtain ⟨oc, od, kV, doc, pm, an, cdv, ct, osl, rfl, lk, hcd⟩ := F.ex
  refine fn_of lk hcd S ?_ ?_
  · rintro vs H Q E ⟨a, C, v, rfl, _⟩
    rfl
  · rintro A outer s H vs Q E hr ⟨a, C, v, rfl, T, hno, ha, hq⟩
    refine ⟨_, hb cdv A outer s H E, ?_⟩
    refine ⟨v, rfl, .ref a, rfl, a, C, rfl, T, hno, .inl ⟨ha, fun dx hd hn => hq dx hd hn⟩⟩
theorem xiC_of {P : Program} {w : World} {K : Frag} {mg : Str → Option Value} {base : Heap} {x f : Str} {fd : FuncData} {ps : List Str} (h : xiB K x f = true) (F : FnOk P w K mg base CX0 1 (He.ma K (He.ga K x) "__init__") fd ps (spI K f)) (b : Binds K fd ps []) : XiC P w K mg base (He.ga K x) f := by
  unfold xiB at h
  simp only [Bool.and_eq_true, decide_eq_true_eq] at h
  obtain ⟨h1, h2, h3, h4⟩ := h
  exact ⟨oexB_ok h1, h2, _, fd, ps, h3, h4, F, b⟩
/-- raise C(e) -/
def sRaiseI (C : Addr) (f : Str) (W : WX') (te : TE') : TS' := fun _ z M => te z M fun u M1 => W C [(f, u)] z M1
section
variable {X : Cx} {C : Addr} {x f : Str} {p pos pos' : Pos} {W : WX'} {e : Expr} {te : TE'} {k : Nat}
theorem qs_raiseI (hc : X.calm = true) (tk : Takes X (lowW X.K W)) (E : XiC X.prog X.w X.K X.mg X.base C f) (gC : X.mg x = some (.ref C)) (he : QE X e te) (hr : Room k X.A) (hk : 2 ≤ k := by first | decide | omega) (hg : Gl X x := by rfl) (hdb : (x == ("__debug__" : Str)) = false := by decide)
    (hst : starEach [e] X.env = (false, eval e X.env) :: starEach [] X.env := by rfl) : QS X (.Raise (some (.Call (.Name x p) [e] [] pos)) none pos') (sRaiseI C f W te) := by
  obtain ⟨T, hno, fI, fd, ps, h1, h2, F, b⟩ := E
  refine imS (ps_raise hc tk (pmk_oex T h1 h2 F (hr.mono hk) b .nil (fun _ _ _ _ _ _ _ z => z.elim) hg gC (pa_cons he pa_nil hst) hdb hst rfl)) fun D σ H ⟨z, M, d, rs, m, h, P⟩ => ?_
  refine ⟨z, M, _, rs, m, h, fun u M1 h1 v H1 r1 m1 k1 => ?_⟩
  refine ⟨show 1 ≤ 1000 by decide, fun a ha => ?_⟩
  refine ⟨a, C, v, rfl, T, hno, upd_same, fun dx hd hne => ⟨rfl, dx, [(f, v)], upd_same, ?_, ?_, ?_⟩⟩
  · rw [upd_ne hne, upd_same]
  · rw [upd_ne hne] at hd; exact hd
  · have hd1 : H1 dx = none := by rw [upd_ne hne] at hd; exact hd
    have eH : upd (del (upd (upd (upd H1 a (exo a C none)) dx (exd dx [(f, v)])) a (exo a C (some dx))) a) dx (.xd [(f, v)]) = upd H1 dx (.xd [(f, v)]) := by
      funext b
      by_cases hb : b = dx
      · rw [hb, upd_same, upd_same]
      · rw [upd_ne hb, upd_ne hb]
        by_cases hb2 : b = a
        · rw [hb2, del_same, ha]
        · rw [del_ne hb2, upd_ne hb2, upd_ne hb, upd_ne hb2]
    rw [eH]
    exact ⟨C, [(f, u)], z, M1, ⟨rfl, .inr ⟨dx, [(f, v)], rfl, upd_same, rfl, .cons (r1.keep (.new hd1)) .nil⟩⟩, (rs.keep k1.tk).keep (.new hd1), m1.hid hd1, h1⟩
end
end L3

set_option Elab.async false
set_option linter.all false
set_option maxRecDepth 100000
set_option maxHeartbeats 4000000
namespace L3
open PySem PySem.Spec L2
open PyProof.Rows hiding St
/-! ### a try's body: what it raises is told with what is kept of the heap since the try began -/
abbrev WT (K : Frag) (H0 : Hp) (W : WX') : WX := fun cls d σ H => lowW K W cls d σ H ∧ TK H0 H
def QEx (X : Cx) (e : Expr) (te : WX' → TE') : Prop := ∀ (H0 : Hp) (W : WX'), Takes X (WT X.K H0 W) → PE X e (fun σ H Q => lowE X.K (te W) σ H Q ∧ TK H0 H)
def QSx1 (X : Cx) (st : Stmt) (t : WX' → TS') : Prop := ∀ (H0 : Hp) (W : WX'), Takes X (WT X.K H0 W) → PS X st (fun D σ H => lowS X.K (t W) D σ H ∧ TK H0 H)
def QSx (X : Cx) (body : List Stmt) (t : WX' → TS') : Prop := ∀ (H0 : Hp) (W : WX'), Takes X (WT X.K H0 W) → PSs X body (fun D σ H => lowS X.K (t W) D σ H ∧ TK H0 H)
section
variable {X : Cx} {k n : Nat} {f : Addr} {ps : List Str} {x : Str} {p pos apos : Pos} {e fe : Expr} {es : List Expr} {sp : Sp'} {ta : TA'} {st : Stmt} {rest a b : List Stmt} {t u : WX' → TS'} {te : WX' → TE'}
theorem qex_of {te : TE'} (h : QE X e te) : QEx X e (fun _ => te) := fun H0 W tk => imE h fun σ H Q q => q.1
theorem qsx_of {t : TS'} (h : QS X st t) : QSx1 X st (fun _ => t) := fun H0 W tk => imS h fun D σ H q => q.1
theorem low_callX {K : Frag} {sp : Sp'} {W : WX'} {us : List U} {vs : List V} {σ : L2.St} {z : SL} {H H0 : Hp} {M : Mp} {q : QK} {Q : VK} (r : RepL K H us vs) (m : RM K H M) (hs : RS K H σ z) (P : Post K H M q Q) (k0 : TK H0 H)
    (h : sp us M q fun C fs M2 => W C fs z M2) : lowSp K sp vs H Q (fun c d H' => WT K H0 W c d σ H') :=
  ⟨us, M, q, _, r, m, h, P, fun C fs M' w cls d H' xr m' k' => ⟨⟨C, fs, z, M', xr, hs.keep k'.tk, m', w⟩, k0.trans k'.tk⟩⟩
theorem qex_call (D : Def' X.prog X.w X.K X.mg X.base k f ps sp) (hr : Room n X.A) (hg : X.A.guards = some []) (hm : X.mg x = some (.ref f)) (ha : QA X (e :: es) ta) (hk : k ≤ n := by first | decide | omega) (hgl : Gl X x := by rfl) (hdb : (x == ("__debug__" : Str)) = false := by decide)
    (he : starEach (e :: es) X.env = (false, eval e X.env) :: starEach es X.env := by rfl) (hpl : (backTo pos (starEach es X.env)).any (·.1) = false := by rfl) : QEx X (.Call (.Name x p) (e :: es) [] pos) (fun W => eCall sp W ta) := by
  intro H0 W tk
  obtain ⟨fd, hb, F⟩ := D.ex
  refine ⟨fun pins s σ H Q I h => ?_⟩
  obtain ⟨⟨z, M, q, hs, m, hq, P⟩, k0⟩ := h
  refine wpAny_Call_Name_kw (ld_glob I hgl hm ?_ hdb)
  refine PySem.W.callWith_K (h₀ := X.base) I.ok.mod.kin D.kp ?_ he hpl
  refine thn (ha.run pos pins s σ H (fun vs H1 => lowSp X.K sp vs H1 Q (fun c d H' => WT X.K H0 W c d σ H')) I ⟨z, M, _, hs, m, hq, ?_⟩) ?_
  · intro us M1 h1 vs H1 r m1 k1
    exact low_callX r m1 (hs.keep k1.tk) (P.step k1) (k0.trans k1.tk) h1
  · intro us s1 h1
    obtain ⟨vs, H1, I1, r, q1⟩ := h1
    exact ⟨I1.kIn, run_fnG (us := us) F (hr.mono hk) hg hb tk I1 r q1⟩
/-- a call of what an expression gives: one of several defs -/
def eCallE (S : List (Addr × Sp')) (W : WX') (tf : TE') (ta : TA') : TE' := fun z M q => tf z M fun u M1 => ∃ f sp, u = .ref f ∧ (f, sp) ∈ S ∧ ta z M1 fun us M2 => sp us M2 q fun C fs M3 => W C fs z M3
theorem qex_callE {S : List (Addr × Sp')} {tf : TE'} (D : ∀ q ∈ S, ∃ ps j, j ≤ k ∧ Def' X.prog X.w X.K X.mg X.base j q.1 ps q.2) (hr : Room k X.A) (hg : X.A.guards = some []) (hf : QE X fe tf) (ha : QA X (e :: es) ta)
    (hev : eval (.Call fe (e :: es) [] pos) X.env = (do let f ← eval fe X.env; callWith pos f [] (backTo pos (starEach (e :: es) X.env)) (backToKw pos (keywordEach [] X.env))) := by rfl)
    (he : starEach (e :: es) X.env = (false, eval e X.env) :: starEach es X.env := by rfl) (hpl : (backTo pos (starEach es X.env)).any (·.1) = false := by rfl) : QEx X (.Call fe (e :: es) [] pos) (fun W => eCallE S W tf ta) := by
  intro H0 W tk
  refine ⟨fun pins s σ H Q I h => ?_⟩
  obtain ⟨⟨z, M, q, hs, m, hq, P⟩, k0⟩ := h
  rw [hev]
  refine wpAny_bind (thn (hf.run pins s σ H (fun v H1 => ∃ (x : U) (M1 : Mp), Rep X.K H1 x v ∧ RM X.K H1 M1 ∧ SK H M H1 M1 ∧ ∃ f sp, x = .ref f ∧ (f, sp) ∈ S ∧ ta z M1 fun us M2 => sp us M2 q fun C fs M3 => W C fs z M3) I
    ⟨z, M, _, hs, m, hq, fun u M1 h1 v H1 r1 m1 k1 => ⟨u, M1, r1, m1, k1, h1⟩⟩) fun u s1 hh => ?_)
  obtain ⟨v, H1, I1, rv, x, M1, r1, m1, k1, f, sp, rfl, hS, hta⟩ := hh
  have ev := rref r1
  subst ev
  obtain rfl : u = Value.ref f := rv
  obtain ⟨ps, j, hj, D1⟩ := D _ hS
  obtain ⟨fd, b, F⟩ := D1.ex
  refine PySem.W.callWith_K (h₀ := X.base) I1.ok.mod.kin D1.kp (thn (ha.run pos pins s1 σ H1 (fun vs H2 => lowSp X.K sp vs H2 Q (fun c d H' => WT X.K H0 W c d σ H')) I1 ⟨z, M1, _, hs.keep k1.tk, m1, hta, fun us M2 h2 vs H2 r m2 k2 => low_callX r m2 ((hs.keep k1.tk).keep k2.tk) (P.step (k1.trans k2)) ((k0.trans k1.tk).trans k2.tk) h2⟩) fun us s2 ⟨vs, H2, I2, r, q2⟩ => ⟨I2.kIn, run_fnG (us := us) F (hr.mono hj) hg b tk I2 r q2⟩) he hpl
theorem qsx_expr (he : QEx X e te) (hs : swapsWith e none pos.line X.env = pure false := by rfl) : QSx1 X (.Expr e pos) (fun W => sExpr (te W)) := fun H0 W tk =>
  imS (ps_expr (he H0 W tk) hs) fun D σ H ⟨⟨z, M, d, rs, m, h, P⟩, k0⟩ => ⟨⟨z, M, _, rs, m, h, fun u M' h' v H' r m' k' => P.nx z M' h' σ H' (rs.keep k'.tk) m' k'⟩, k0⟩
theorem qsx_nil : QSx X [] (fun _ => sNext) := fun H0 W tk => imSs qss_nil fun D σ H q => q.1
theorem qsx_one (h : QSx1 X st t) : QSx X [st] t := fun H0 W tk => pss_one (h H0 W tk)
theorem qsx_cons (h1 : QSx1 X st t) (h2 : QSx X rest u) : QSx X (st :: rest) (fun W => sSeq (t W) (u W)) := fun H0 W tk =>
  imSs (pss_cons (h1 H0 W tk) (h2 H0 W tk)) fun D σ H ⟨⟨z, M, d, rs, m, h, P⟩, k0⟩ =>
    ⟨⟨z, M, _, rs, m, h, ⟨fun z' M' h' σ' H' rs' m' k' => ⟨⟨z', M', d, rs', m', h', P.step k'⟩, k0.trans k'.tk⟩, P.rt, P.bk, P.ct⟩⟩, k0⟩
theorem qsx_set {i : Nat} {x : Str} {pos' : Pos} (hN : X.N.Nodup) (he : QEx X e te) (hi : X.N[i]? = some x := by rfl) (hx : Loc X.env.scope x := by first | exact Or.inl rfl | exact Or.inr rfl) (hs : swapsWith e (some (.Name x pos')) pos.line X.env = pure false := by rfl)
    (hf : X.fn x = true ∨ X.env.scope.names.lookup x = some .local := by first | exact .inl rfl | exact .inr rfl | assumption) : QSx1 X (.Assign [.Name x pos'] e pos) (fun W => sSet i (te W)) := fun H0 W tk =>
  imS (ps_set hN hi hx (he H0 W tk) hs hf) fun D σ H ⟨⟨z, M, d, rs, m, h, P⟩, k0⟩ => ⟨⟨z, M, _, rs, m, h, fun u M' h' v H' r m' k' => P.nx _ M' h' _ H' ((rs.keep k'.tk).set r) m' k'⟩, k0⟩
theorem qsx_if {c : Expr} {tc : TT'} (hc : QT X c tc) (ha : QSx X a t) (hb : QSx X b u) : QSx1 X (.If c a b pos) (fun W => sIf tc (t W) (u W)) := fun H0 W tk =>
  imS (ps_if hc (ha H0 W tk) (hb H0 W tk)) fun D σ H ⟨⟨z, M, d, rs, m, h, P⟩, k0⟩ =>
  ⟨z, M, _, rs, m, h, fun b M' h' H' m' k' => by
    cases b with
    | true => exact iteT ⟨⟨z, M', d, rs.keep k'.tk, m', h', P.step k'⟩, k0.trans k'.tk⟩
    | false => exact iteF ⟨⟨z, M', d, rs.keep k'.tk, m', h', P.step k'⟩, k0.trans k'.tk⟩⟩
end
/-! ### try: body, except C as n: suite -/
def sTry (K : Frag) (cE : Value) (i : Nat) (tb : WX' → TS') (ts : TS') (Wout : WX') : TS' := fun d z M => tb (fun C fs z' M' => ∃ b, PySem.W.exmOne K (.ref C) cE = some b ∧
  (b = true → ∀ a, M' a = none → ts { nx := fun z2 M2 => d.nx (setS z2 i none) M2, rt := d.rt, bk := fun z2 M2 => d.bk (setS z2 i none) M2, ct := fun z2 M2 => d.ct (setS z2 i none) M2 } (setS z' i (some (.ref a))) (put M' a (.exc C fs))) ∧
  (b = false → Wout C fs z' M')) d z M
section
variable {X : Cx} {x n : Str} {cE : Value} {i : Nat} {body suite : List Stmt} {b₀ : Stmt} {np pos pos' : Pos} {tb : WX' → TS'} {ts : TS'} {Wout : WX'}
theorem suiteX {pins : List (Addr × Obj)} {σ : L2.St} {H : Hp} {s : Shared} {a : Addr} (I : Inv X pins σ H s) : Inv (X.suite a (X.pn ++ pins)) [] σ H s :=
  ⟨I.ok.suite _ _, I.os, I.bare, I.base, I.loc, I.cell, I.free, I.freeC, fun p hp => I.pin p (by rw [List.append_nil] at hp; exact hp), I.hok, I.len⟩
theorem unsuiteX {pins pn' : List (Addr × Obj)} {σ : L2.St} {H : Hp} {s : Shared} {a : Addr} (I : Inv (X.suite a (X.pn ++ pins)) pn' σ H s) (ok : X.Ok) : Inv X pins σ H s :=
  ⟨ok, I.os, I.bare, I.base, I.loc, I.cell, I.free, I.freeC, fun p hp => I.pin p (List.mem_append_left _ hp), I.hok, I.len⟩
theorem qs_try (hs : X.stack = X.env :: X.outer) (hf : X.env.frame = some X.env.locals) (hex : X.ex = []) (hN : X.N.Nodup) (hi : X.N[i]? = some n) (hln : X.env.kindOf n = some .local) (hc : Names X x cE) (tk : Takes X (lowW X.K Wout))
    (hb : ∀ (pn : List (Addr × Obj)) (xe : Value → Shared → Prop), PassesOwn (model X.prog X.w) X.A X.env xe → QSx (X.tr pn xe) body tb)
    (hsu : ∀ (a : Addr) (pn : List (Addr × Obj)), QSs (X.suite a pn) (b₀ :: suite) ts) :
    QS X (.Try body [.ExceptHandler (some (.Name x np)) (some n) (b₀ :: suite) pos'] [] [] pos) (sTry X.K cE i tb ts Wout) := by
  refine ⟨fun pins s σ H D I h => ?_⟩
  obtain ⟨z, M, d, rs, m, h, PD⟩ := h
  have ok := I.ok
  have hfr : X.A.frames = some (X.env :: X.outer) := by rw [ok.frames, hs]
  have hloc : Loc X.env.scope n := .inl hln
  refine wpAny_Try_except ?_
  refine wpAny_mono ((hb (X.pn ++ pins) (fun e s₁ => wpAny (model X.prog X.w) X.A (noteFrame e X.env) (fun _ s₂ => wpAny (model X.prog X.w) X.A (setFlight e none) (fun _ s₃ =>
    wpAny (model X.prog X.w) X.A (handleBy e X.env [.ExceptHandler (some (.Name x np)) (some n) (b₀ :: suite) pos']) (SP X pins D) X.xe s₃) X.xe s₂) X.xe s₁) PassesOwn.looking H _ (fun u s' xx => ?_)).run [] s σ H D (I.toTry _) ⟨⟨z, M, d, rs, m, h, PD⟩, .refl H⟩) (fun f s1 hsp => ?_) (fun e s1 he => he)
  · obtain ⟨a, B, sI, pins', σ', H', cls, dd, rfl, J', nb, up, sky, na, os, ag, ⟨C, fs, z', M', ⟨ecls, xr⟩, rs', m', b, hb1, hyes, hno⟩, k0⟩ := xx
    subst ecls
    have J : Inv X pins σ' H' sI := J'.ofTry ok
    have sky' : Sky B (X.env :: X.outer) a (Zc (.ref C) dd) X.env.locals s'.heap := by rw [← hs]; exact sky
    show wpAny (model X.prog X.w) X.A (noteFrame (.ref a) X.env) _ _ _
    refine Sky.land Zc.steady hfr hf sky' fun h3 fl3 up3 => ?_
    have J3 : Inv X pins σ' H' { s' with heap := h3 } := J.landed nb fl3.1 (up.trans up3) os ag
    obtain ⟨oe3, vs3, he3, hz3, hd3⟩ := fl3.there
    have notFr : ∀ {h : Heap} {o : Obj} {vs : Array Value}, h.FunFrames B (X.env :: X.outer) → h.get? a = some o → o.data = .fields vs → a ∉ frs (X.env :: X.outer) := fun {h o vs} ff e dd hm => by
      obtain ⟨_, o', e', hnf⟩ := ff.mem hm
      rw [e] at e'; cases e'
      exact hnf _ dd
    have nfr := notFr fl3.2.2.1 he3 hd3
    have nL : a ≠ X.env.locals := fun z => nfr (List.mem_filterMap.mpr ⟨X.env, List.mem_cons_self, by rw [hf, z]⟩)
    -- the exception is new
    have nsI : sI.heap.get? a = none := by
      cases e : sI.heap.get? a with
      | none => rfl
      | some o =>
        have := nb a o e (by rw [hs]; exact nfr)
        rw [fl3.2.1] at this
        cases this
    have n0 : X.s_0.heap.get? a = none := by
      cases e : X.s_0.heap.get? a with
      | none => rfl
      | some o =>
        obtain ⟨o', e'⟩ := J.base.there a o e (by rw [hex]; exact fun z => nomatch z)
        rw [nsI] at e'
        cases e'
    have nc : ∀ y c, X.env.cells.lookup y = some c → c ≠ a := fun y c e z => by
      obtain ⟨v, o, ho, _⟩ := J.cell y c e
      rw [z, nsI] at ho
      cases ho
    have np2 : ∀ p ∈ X.pn ++ pins, p.1 ≠ a := fun p hp z => by
      have := (J.pin p hp).1
      rw [z, nsI] at this
      cases this
    have LT : PySem.W.Looks (model X.prog X.w) h3 (typeOf (.ref a)) (.ref C) := fun A Q E s k q => wpAny_typeOf_ref (k _ _ he3) (by rw [hz3.1]; exact q)
    have LM := PySem.W.exm_one (M := model X.prog X.w) (J3.kIn) LT hb1
    refine wpAny_handleBy_cons (codeAny_handlers_test ?_) (by intro q; cases q)
    have test : ∀ {Q : Value → Shared → Prop} {E : Value → Shared → Prop}, Q cE { s' with heap := h3 } → wpAny (model X.prog X.w) (X.A.mark (some (.ref a))) (eval (.Name x np) X.env) Q E { s' with heap := h3 } := fun {Q E} q => by
      obtain ⟨hg, hdbg, hm | ⟨hm, hv, hnn⟩⟩ := hc
      · exact ld_glob (X := X.suite a (X.pn ++ pins)) (suiteX J3) hg hm q hdbg
      · exact ld_blt (X := X.suite a (X.pn ++ pins)) (suiteX J3) hg hm hv q hnn hdbg
    refine test (LM.here ?_)
    cases b with
    | true =>
      refine codeAny_handlers_suite_as ?_
      refine HandSPX.lands_againZ fl3 fun h4 fl4 up4 => ?_
      have J4 : Inv X pins σ' H' { s' with heap := h4 } := J.landed nb fl4.1 ((up.trans up3).trans up4) os ag
      obtain ⟨oe4, vs4, he4, hz4, hd4⟩ := fl4.there
      -- what is known from now on
      obtain ⟨H5, J5, k5, nH5, x5⟩ : ∃ H5, Inv X pins σ' H5 { s' with heap := h4 } ∧ TK H' H5 ∧ H5 a = none ∧ RM X.K H5 M' ∧ ((fs = [] ∧ oe4.dict = none) ∨ ∃ dd od l, oe4.dict = some dd ∧ H5 dd = some (.frz od (.xd l)) ∧ fs.map (·.1) = l.map (·.1) ∧ RepL X.K H5 (fs.map (·.2)) (l.map (·.2))) := by
        rcases xr with ⟨e1, e2⟩ | ⟨d1, l, e1, e2, e3, e4⟩
        · exact ⟨H', J4, .refl _, na, m', .inl ⟨e1, by rw [hz4.2, e2]⟩⟩
        · obtain ⟨od, J5⟩ := Inv.lockX J4 e2
          have tk5 : TK H' (upd H' d1 (.frz od (.xd l))) := .wr e2 (fun xs z => nomatch z) fun o x z => nomatch z
          have nd : a ≠ d1 := fun z => by rw [← z, na] at e2; cases e2
          refine ⟨_, J5, tk5, by rw [upd_ne nd]; exact na, fun b o e => ?_, .inr ⟨d1, od, l, by rw [hz4.2, e1], upd_same, e3, e4.keep tk5⟩⟩
          have h1 := m' b o e
          refine RO.keep tk5 h1 (fun u hu => ?_) fun c hc => by rw [upd_ne (fun z => by rw [z, e2] at hc; cases hc)]; exact hc
          by_cases hb : b = d1
          · subst hb
            rw [e2] at hu
            exfalso
            cases o with
            | lst xs => obtain ⟨_, h1, _⟩ := h1; rw [e2] at h1; cases h1
            | dic tk lk kvs =>
              cases tk
              all_goals
                obtain ⟨l', h1, _⟩ := h1
                unfold RdL at h1
                cases lk
                · rw [if_neg Bool.false_ne_true, e2] at h1; cases h1
                · rw [if_pos rfl] at h1; obtain ⟨o, h1⟩ := h1; rw [e2] at h1; cases h1
            | ins C fs => obtain ⟨_, _, h1, _⟩ := h1; rw [e2] at h1; cases h1
            | exc C fs => obtain ⟨_, h1, _⟩ := h1; rw [e2] at h1; cases h1
          · rw [upd_ne hb]; exact hu
      have J6 := Inv.adopt J5 he4 nH5 n0 nL nc np2
      have tk6 : TK H' (upd H5 a (xcT a oe4)) := k5.trans (.new nH5)
      have m6 : RM X.K (upd H5 a (xcT a oe4)) (put M' a (.exc C fs)) := x5.1.new (mo := .exc C fs) nH5 (by
        refine ⟨oe4, upd_same, hz4.1, ⟨_, hd4⟩, ?_⟩
        rcases x5.2 with q | ⟨dd, od, l, e1, e2, e3, r⟩
        · exact .inl q
        · exact .inr ⟨dd, od, l, e1, by rw [upd_ne (fun z => by rw [z, nH5] at e2; cases e2)]; exact e2, e3, r.keep (.new nH5)⟩)
      refine store_ok (X := X.suite a (X.pn ++ pins)) (v := .ref a) (suiteX J6) hN hi hloc rfl (fun s5 S5 => ?_) (.inr hln)
      have PD6 : SK H M (upd H5 a (xcT a oe4)) (put M' a (.exc C fs)) := ⟨k0.trans tk6⟩
      refine wpAny_mono ((hsu a (X.pn ++ pins)).run [] s5 _ _ { nx := fun σ' H' => D.nx (σ'.set i none) H', rt := D.rt, bk := fun σ' H' => D.bk (σ'.set i none) H', ct := fun σ' H' => D.ct (σ'.set i none) H' } S5
        ⟨setS z' i (some (.ref a)), _, _, (rs'.keep tk6).set .r, m6, hyes rfl a (m'.fresh na), ?_⟩) (fun f s6 hsp => ?_) (fun _ _ z => False.elim z)
      · have pd := PD.step PD6
        exact ⟨fun z2 M2 q2 σ2 H2 rs2 m2 k2 => pd.nx _ M2 q2 _ H2 rs2.clr m2 k2, pd.rt, fun z2 M2 q2 σ2 H2 rs2 m2 k2 => pd.bk _ M2 q2 _ H2 rs2.clr m2 k2, fun z2 M2 q2 σ2 H2 rs2 m2 k2 => pd.ct _ M2 q2 _ H2 rs2.clr m2 k2⟩
      have end_ : ∀ {σ6 : L2.St} {H6 : Hp} {Q : Shared → Prop}, Inv (X.suite a (X.pn ++ pins)) [] σ6 H6 s6 → (∀ s7, Inv X pins (σ6.set i none) H6 s7 → Q s7) →
          wpAny (model X.prog X.w) X.A (do bindName X.env n .none; unbindBehindTheSuite X.env n pos') (fun _ s7 => Q s7) X.xe s6 := fun {σ6 H6 Q} S6 hq => gone_ok (unsuiteX S6 ok) hN hi hln hq
      cases f with
      | next =>
        obtain ⟨σ6, H6, S6, q6⟩ := hsp
        exact end_ S6 fun s7 J7 => ⟨_, _, J7, q6⟩
      | brk =>
        obtain ⟨σ6, H6, S6, q6⟩ := hsp
        exact end_ S6 fun s7 J7 => ⟨_, _, J7, q6⟩
      | cont =>
        obtain ⟨σ6, H6, S6, q6⟩ := hsp
        exact end_ S6 fun s7 J7 => ⟨_, _, J7, q6⟩
      | ret u =>
        obtain ⟨v6, σ6, H6, S6, r6, q6⟩ := hsp
        exact end_ S6 fun s7 J7 => ⟨_, _, _, J7, r6, q6⟩
    | false =>
      show wpAny _ X.A (handleBy (.ref a) X.env []) _ _ _
      refine wpAny_handleBy_nil ?_
      obtain ⟨k1, k2, k3, oe, vs, T, oT, ts', he, hz, hd, h1, hr⟩ := id fl3
      unfold PySem.passOn
      refine wpAny_bind (wpAny_field he hd h1 ?_)
      rw [if_neg (show ¬ ((Value.ref T == Value.none) = true) from by simp)]
      have fin : wpAny (model X.prog X.w) X.A (setFlight (.ref a) X.env.frame) (fun _ s4 => wpAny (model X.prog X.w) X.A (throw (.ref a) : Sem Flow) (SP X pins D) X.xe s4) X.xe { s' with heap := h3 } := by
        rw [hf]
        refine HandSPX.setFlight_upZ fl3 fun h4 hh4 up4 => wpAny_throw (tk _ _ ?_)
        exact ⟨a, B, sI, pins, σ', H', .ref C, dd, rfl, J, nb, (up.trans up3).trans up4, .inr (.inr (by rw [hs]; exact hh4)), na, os, ag, C, fs, z', M', ⟨rfl, xr⟩, rs', m', hno rfl⟩
      first
        | exact wpAny_bind (wpAny_pure (wpAny_bind fin))
        | exact wpAny_bind fin
  · cases f with
    | next =>
      obtain ⟨σ', H', J', q⟩ := hsp
      exact wpAny_execs_nil ⟨σ', H', J'.ofTry ok, q⟩
    | brk =>
      obtain ⟨σ', H', J', q⟩ := hsp
      exact ⟨σ', H', J'.ofTry ok, q⟩
    | cont =>
      obtain ⟨σ', H', J', q⟩ := hsp
      exact ⟨σ', H', J'.ofTry ok, q⟩
    | ret u =>
      obtain ⟨v, σ', H', J', r, q⟩ := hsp
      exact ⟨v, σ', H', J'.ofTry ok, r, q⟩
end
end L3
namespace L3
open PySem
/-- what a def lets out -/
def wX (e : XK') : WX' := fun C fs _ M' => e C fs M'
theorem bb_ValueError : bootBuiltins "ValueError" = some (.type "ValueError") := by decide +kernel
end L3

set_option Elab.async false
set_option linter.all false
set_option maxRecDepth 100000
set_option maxHeartbeats 4000000
namespace L3
open PySem PySem.Spec L2
open PyProof.Rows hiding St
/-! ### C(e) as a thing that is held, C's own __init__ of one field -/
def tMkV (C : Addr) (sp : Sp) (ta : TA) : TE := fun σ H Q => ta σ H fun vs H1 => vs.length ≤ 1000 ∧ ∀ a, H1 a = none → sp (.ref a :: vs) (upd H1 a (exo a C none))
  (fun v H2 => v = .non ∧ ∃ (d : Addr) (fs : List (Str × V)), H2 a = some (exo a C (some d)) ∧ H2 d = some (exd d fs) ∧ H1 d = none ∧
    ∀ (od oe : Obj), oe.cls = .ref C → oe.dict = some d → (∃ xs, oe.data = .fields xs) → Q (.ref a) (upd (upd (upd (del H2 a) d (.xd fs)) d (.frz od (.xd fs))) a (xcT a oe))) (fun _ _ _ => False)
section
variable {X : Cx} {e : Expr} {es : List Expr} {ta : TA} {p pos : Pos}
theorem pe_mkV {CX : CXT} {x : Str} {C fI : Addr} {k : Nat} {fd : FuncData} {ps : List Str} {sp : Sp} (T : OexC X.K C) (iC : PySem.W.findIn X.K (.ref C) "__init__" = some (some (.ref fI))) (tI : PySem.W.typeIn X.K (.ref fI) = some (.type "function"))
    (F1 : FnOk X.prog X.w X.K X.mg X.base CX k fI fd ps sp) (hr : Room (k + 1) X.A) (hb : Binds X.K fd ps []) (hx : Passes CX X (fun _ _ _ => False)) (hg : Gl X x) (hm : X.mg x = some (.ref C)) (ha : PA X (e :: es) ta)
    (hdb : (x == ("__debug__" : Str)) = false := by decide) (he : starEach (e :: es) X.env = (false, eval e X.env) :: starEach es X.env := by rfl) (hpl : (backTo pos (starEach es X.env)).any (·.1) = false := by rfl) :
    PE X (.Call (.Name x p) (e :: es) [] pos) (tMkV C sp ta) := by
  refine ⟨fun pins s σ H Q I h => ?_⟩
  obtain ⟨nm, q, N, bs, bm, sn, sub, ab, col, dd, k0, k1, k2, k3, k5, hC, hbm⟩ := T.cls
  refine wpAny_Call_Name_kw (ld_glob I hg hm ?_ hdb)
  refine PySem.W.callWith_K (h₀ := X.base) I.ok.mod.kin T.kC (thn (ha.run pos pins s σ H _ I h) fun us s1 ⟨vs, H1, I1, r1, hz, q1⟩ => ⟨I1.kIn, ?_⟩) he hpl
  show wpAny _ _ (call (.ref C) us) _ _ _
  obtain ⟨hp, g, dr, tk, os⟩ := s1
  have hsz : hp.objs.size ≤ hp.objs.size + 1 := Nat.le_succ _
  have hn : H1 (hp.objs.size + 1) = none := I1.hok.fresh hsz
  have hq := q1 (hp.objs.size + 1) hn
  have kk : ∀ b o, hp.get? b = some o → ((hp.push (PySem.W.kdv_tup us)).push (PySem.HandSPX.excO C hp.objs.size)).get? b = some o := fun b o e => Heap.get?_push_of_some _ (Heap.get?_push_of_some _ e)
  have hget : ((hp.push (PySem.W.kdv_tup us)).push (PySem.HandSPX.excO C hp.objs.size)).get? (hp.objs.size + 1) = some (PySem.HandSPX.excO C hp.objs.size) := by heap_get
  have I2 : Inv X pins σ (upd H1 (hp.objs.size + 1) (exo (hp.objs.size + 1) C none)) ⟨(hp.push (PySem.W.kdv_tup us)).push (PySem.HandSPX.excO C hp.objs.size), g, dr, tk, os⟩ :=
    I1.laid (t' := tk) (a := hp.objs.size + 1) (o := exo (hp.objs.size + 1) C none) (h' := (hp.push (PySem.W.kdv_tup us)).push (PySem.HandSPX.excO C hp.objs.size)) kk hsz (exo_ok hget)
  have r2 : Vals (V.ref (hp.objs.size + 1) :: vs) (Value.ref (hp.objs.size + 1) :: us) := .cons rfl r1
  have hl : (Value.ref (hp.objs.size + 1) :: us).length = ps.length := by
    have e := r2.length
    rw [F1.len _ _ _ _ hq] at e
    exact e.symm
  have hus : us.length ≤ sizeLine := by
    rw [← Paired.length r1, sizeLine_eq]
    omega
  refine wpAny_call (PySem.HandSPX.call_own F.excBase_ValueError (fun Y => PySem.HandSPX.refsVE_contains Y bm hbm) (I1.kIn _ _ hC) (PySem.W.looks_findIn I1.kIn iC) (fun self => PySem.W.bind_fn I1.kIn self tI) hus
    (codeAny_mono (F1.run _ X.stack _ _ ⟨Value.ref (hp.objs.size + 1) :: us, []⟩ (Value.ref (hp.objs.size + 1) :: us) _ _ (fun _ _ _ => False) (hr.make C us []) (I2.env0.make C us []) (by
      have := hb _ (Value.ref (hp.objs.size + 1) :: us) I2.kIn (by rw [List.append_nil]; exact hl)
      rwa [List.append_nil] at this) r2 hq) fun r s' hq' => ?_))
  cases r with
  | error er => exact hx pins σ _ _ er s' I2 hq'
  | ok fl =>
    cases fl with
    | ret u =>
      obtain ⟨v, H2, os2, bare2, un2, hok2, rv, ev, d, fs, ea, ed, hd1, q2⟩ := hq'
      subst ev
      obtain ⟨h2, g2, d2, t2, os'⟩ := s'
      obtain ⟨t0, G, J, kG, ge, hoe, na⟩ := mk_end0 (d2 := d2) (t2 := t2) I1 hsz kk un2 hok2 os2 bare2 ea ed hd1
      obtain ⟨od, J1⟩ := Inv.lockX J (d := d) (l := fs) upd_same
      have nad : hp.objs.size + 1 ≠ d := fun z => by rw [← z, upd_same] at na; cases na
      have na1 : (upd (upd (del H2 (hp.objs.size + 1)) d (.xd fs)) d (.frz od (.xd fs))) (hp.objs.size + 1) = none := by rw [upd_ne nad]; exact na
      obtain ⟨oe, hoe', c1, c2, c3⟩ : ∃ oe : Obj, h2.get? (hp.objs.size + 1) = some oe ∧ oe.cls = .ref C ∧ oe.dict = some d ∧ ∃ xs, oe.data = .fields xs := ⟨_, hoe, rfl, rfl, _, rfl⟩
      exact ⟨rv, .ref (hp.objs.size + 1), _, J1.laidN (o := xcT (hp.objs.size + 1) oe) (t' := t2) kG ge na1 ⟨hoe', hoe', ⟨_, hoe'⟩, fun h1 h2 q k => k _ q⟩, rfl, q2 od oe c1 c2 c3⟩
    | next => exact False.elim hq'
    | brk => exact False.elim hq'
    | cont => exact False.elim hq'
end
def eMkI (C : Addr) (f : Str) (te : TE') : TE' := fun z M q => te z M fun u M1 => ∀ a, M1 a = none → q (.ref a) (put M1 a (.exc C [(f, u)]))
section
variable {X : Cx} {C : Addr} {x f : Str} {p pos : Pos} {e : Expr} {te : TE'} {k : Nat}
theorem qe_mkI (E : XiC X.prog X.w X.K X.mg X.base C f) (gC : X.mg x = some (.ref C)) (he : QE X e te) (hr : Room k X.A) (hk : 2 ≤ k := by first | decide | omega) (hg : Gl X x := by rfl) (hdb : (x == ("__debug__" : Str)) = false := by decide)
    (hst : starEach [e] X.env = (false, eval e X.env) :: starEach [] X.env := by rfl) : QE X (.Call (.Name x p) [e] [] pos) (eMkI C f te) := by
  obtain ⟨T, hno, fI, fd, ps, h1, h2, F, b⟩ := E
  refine imE (pe_mkV T h1 h2 F (hr.mono hk) b (fun _ _ _ _ _ _ _ z => z.elim) hg gC (pa_cons he pa_nil hst) hdb hst rfl) fun σ H Q ⟨z, M, q, rs, m, h, P⟩ => ?_
  refine ⟨z, M, _, rs, m, h, fun u M1 h1 v H1 r1 m1 k1 => ?_⟩
  refine ⟨show 1 ≤ 1000 by decide, fun a ha => ?_⟩
  refine ⟨a, C, v, rfl, T, hno, upd_same, fun dx hd hne => ⟨rfl, dx, [(f, v)], upd_same, ?_, ?_, fun od oe c1 c2 c3 => ?_⟩⟩
  · rw [upd_ne hne, upd_same]
  · rw [upd_ne hne] at hd; exact hd
  · have hd1 : H1 dx = none := by rw [upd_ne hne] at hd; exact hd
    have eH : upd (upd (del (upd (upd (upd H1 a (exo a C none)) dx (exd dx [(f, v)])) a (exo a C (some dx))) a) dx (.xd [(f, v)])) dx (.frz od (.xd [(f, v)])) = upd H1 dx (.frz od (.xd [(f, v)])) := by
      funext b
      by_cases hb : b = dx
      · rw [hb, upd_same, upd_same]
      · rw [upd_ne hb, upd_ne hb, upd_ne hb]
        by_cases hb2 : b = a
        · rw [hb2, del_same, ha]
        · rw [del_ne hb2, upd_ne hb2, upd_ne hb, upd_ne hb2]
    rw [eH]
    have tk1 : TK H1 (upd H1 dx (.frz od (.xd [(f, v)]))) := .new hd1
    have na : (upd H1 dx (.frz od (.xd [(f, v)]))) a = none := by rw [upd_ne (Ne.symm hne)]; exact ha
    have m2 : RM X.K (upd H1 dx (.frz od (.xd [(f, v)]))) M1 := m1.hid hd1
    have k2 : SK H1 M1 (upd (upd H1 dx (.frz od (.xd [(f, v)]))) a (xcT a oe)) (put M1 a (.exc C [(f, u)])) := ⟨tk1.trans (.new na)⟩
    refine P _ _ (h1 a (m1.fresh ha)) _ _ .r (m2.new (mo := .exc C [(f, u)]) na ⟨oe, upd_same, c1, c3, .inr ⟨dx, od, [(f, v)], c2, by rw [upd_ne hne]; exact upd_same, rfl, .cons (r1.keep (tk1.trans (.new na))) .nil⟩⟩) (k1.trans k2)
end
end L3

set_option Elab.async false
set_option linter.all false
set_option maxRecDepth 100000
set_option maxHeartbeats 0
namespace Cw
open PySem PySem.Spec L2 L3
open PyProof.Rows hiding St
open He (Dv)

def top (i : Nat) : Stmt := PySem.Challenge.pw_cutstree_k90_classes.main.body.getD i (.Pass ⟨0, 0, 0, 0⟩)
abbrev s_NoTie_init : Stmt := (inClass (top 4) 0)
abbrev n_NoTie_init : List Str := ["self", "at"]
theorem sc_NoTie_init : FnScope n_NoTie_init ["self", "at"] (defScope s_NoTie_init) := ⟨rfl, rfl, rfl, by decide +kernel, rfl, by decide +kernel, by decide +kernel⟩
abbrev s_TooMany_init : Stmt := (inClass (top 5) 0)
abbrev n_TooMany_init : List Str := ["self", "most"]
theorem sc_TooMany_init : FnScope n_TooMany_init ["self", "most"] (defScope s_TooMany_init) := ⟨rfl, rfl, rfl, by decide +kernel, rfl, by decide +kernel, by decide +kernel⟩
abbrev s_NoLine_init : Stmt := (inClass (top 15) 0)
abbrev n_NoLine_init : List Str := ["self", "at"]
theorem sc_NoLine_init : FnScope n_NoLine_init ["self", "at"] (defScope s_NoLine_init) := ⟨rfl, rfl, rfl, by decide +kernel, rfl, by decide +kernel, by decide +kernel⟩
abbrev s__law_of : Stmt := (top 18)
abbrev n__law_of : List Str := ["_law_error", "_law_found"]
theorem sc__law_of : FnScope n__law_of ["_law_error"] (defScope s__law_of) := ⟨rfl, rfl, rfl, by decide +kernel, rfl, by decide +kernel, by decide +kernel⟩
abbrev s__law_made : Stmt := (top 19)
abbrev n__law_made : List Str := ["_law_number", "_law_found"]
theorem sc__law_made : FnScope n__law_made ["_law_number"] (defScope s__law_made) := ⟨rfl, rfl, rfl, by decide +kernel, rfl, by decide +kernel, by decide +kernel⟩
abbrev s_law : Stmt := (top 20)
abbrev n_law : List Str := ["_law_script", "_law_first", "_law_number", "_law_some", "_law_at", "_law_other"]
theorem sc_law : FnScope n_law ["_law_script"] (defScope s_law) := ⟨rfl, rfl, rfl, by decide +kernel, rfl, by decide +kernel, by decide +kernel⟩
def d_NoTie_init : He.DefD := ⟨("NoTie", some "__init__"), "__init__", "NoTie.__init__", defArgs s_NoTie_init, defBody s_NoTie_init, defScope s_NoTie_init, [], []⟩
def d_TooMany_init : He.DefD := ⟨("TooMany", some "__init__"), "__init__", "TooMany.__init__", defArgs s_TooMany_init, defBody s_TooMany_init, defScope s_TooMany_init, [], []⟩
def d_NoLine_init : He.DefD := ⟨("NoLine", some "__init__"), "__init__", "NoLine.__init__", defArgs s_NoLine_init, defBody s_NoLine_init, defScope s_NoLine_init, [], []⟩
def d__law_of : He.DefD := ⟨("_law_of", none), "_law_of", "_law_of", defArgs s__law_of, defBody s__law_of, defScope s__law_of, [], []⟩
def d__law_made : He.DefD := ⟨("_law_made", none), "_law_made", "_law_made", defArgs s__law_made, defBody s__law_made, defScope s__law_made, [], []⟩
def d_law : He.DefD := ⟨("law", none), "law", "law", defArgs s_law, defBody s_law, defScope s_law, [], []⟩
def fn : List He.DefD := [d_NoTie_init, d_TooMany_init, d_NoLine_init, d__law_of, d__law_made, d_law]
def fa : List He.Fa := .glo "_law_of" :: .glo "_law_made" :: .glo "law" :: .free "ValueError" :: .free "isinstance" :: .free "range" :: .glo "CutError" :: .glo "NoWeight" :: .exc "NoWeight" :: .glo "NoPlace" :: .exc "NoPlace" :: .glo "NoTie" :: .glo "TooMany" :: .glo "NoSide" :: .exc "NoSide" :: .glo "NoFlow" :: .exc "NoFlow" :: .glo "NotGreatest" :: .exc "NotGreatest" :: .glo "NoTree" :: 
    [.exc "NoTree", .glo "OnePlace", .exc "OnePlace", .glo "InPieces", .exc "InPieces", .glo "NoChart", .exc "NoChart", .glo "NoGroups", .exc "NoGroups", .glo "NoDemand", .exc "NoDemand", .glo "NoLine", .glo "NotThere", .exc "NotThere"]
def exB (K : Frag) : Bool := ([He.ga K "NoWeight", He.ga K "NoPlace", He.ga K "NoTie", He.ga K "TooMany", He.ga K "NoSide", He.ga K "NoFlow", He.ga K "NotGreatest", He.ga K "NoTree", He.ga K "OnePlace", He.ga K "InPieces", He.ga K "NoChart", He.ga K "NoGroups", He.ga K "NoDemand", He.ga K "NoLine", He.ga K "NotThere"].all fun c => xcB K c) && (([He.ga K "NoWeight", He.ga K "NoPlace", He.ga K "NoTie", He.ga K "TooMany", He.ga K "NoSide", He.ga K "NoFlow", He.ga K "NotGreatest", He.ga K "NoTree", He.ga K "OnePlace", He.ga K "InPieces", He.ga K "NoChart", He.ga K "NoGroups", He.ga K "NoDemand", He.ga K "NoLine", He.ga K "NotThere"].zipIdx).all fun c => ([He.ga K "NoWeight", He.ga K "NoPlace", He.ga K "NoTie", He.ga K "TooMany", He.ga K "NoSide", He.ga K "NoFlow", He.ga K "NotGreatest", He.ga K "NoTree", He.ga K "OnePlace", He.ga K "InPieces", He.ga K "NoChart", He.ga K "NoGroups", He.ga K "NoDemand", He.ga K "NoLine", He.ga K "NotThere"].zipIdx).all fun d => decide (PySem.W.kitOne K (.ref c.1) (.ref d.1) = some (d.2 == c.2))) && ([He.ga K "NoWeight", He.ga K "NoPlace", He.ga K "NoTie", He.ga K "TooMany", He.ga K "NoSide", He.ga K "NoFlow", He.ga K "NotGreatest", He.ga K "NoTree", He.ga K "OnePlace", He.ga K "InPieces", He.ga K "NoChart", He.ga K "NoGroups", He.ga K "NoDemand", He.ga K "NoLine", He.ga K "NotThere"].all fun c => decide (PySem.W.kitOne K (.ref c) (.ref (He.ga K "CutError")) = some true) && decide (PySem.W.kitOne K (.ref c) (.type "ValueError") = some true)) && decide (PySem.W.findIn K (.ref (He.ga K "NoTie")) "at" = some none ∧ PySem.W.findIn K (.ref (He.ga K "NoLine")) "at" = some none ∧ PySem.W.findIn K (.ref (He.ga K "TooMany")) "most" = some none) && xiB K "NoTie" "at" && xiB K "TooMany" "most" && xiB K "NoLine" "at"
abbrev R : PySem.W.OpenRow := PySem.W.OpenLaw.row PySem.Challenge.rw_cutstree_k90_classes
abbrev hk : PySem.W.Hook := He.hookX 5 fa fn [] [] exB
def ob (s : PySem.W.SharedT) : He.AlX := He.obsX 5 fa fn [] [] exB (HandSHeadRun.getT s)
theorem ob_eq (s : PySem.W.SharedT) : ob s = hk.obs s.abs := He.obsX_eq (HandSHeadRun.getT_eq s)
def loose : List Str := ["__name__", "CutError", "NoWeight", "NoPlace", "NoTie", "TooMany", "NoSide", "NoFlow", "NotGreatest", "NoTree", "OnePlace", "InPieces", "NoChart", "NoGroups", "NoDemand", "NoLine", "NotThere", "_law_of", "_law_made"]
theorem run (w : World) : HandSHeadRun.RunEq R (PySem.W.view R.prog [20]) hk ob 9000 loose w := by
  intro os
  kernel_rfl
structure Tx (K : Frag) (mg : Str → Option Value) : Prop where
  says : He.SaysD fa fn K
  glo : ∀ (i : Nat) {x : Str}, fa[i]? = some (.glo x) → mg x = some (.ref (He.ga K x))
  free : ∀ (i : Nat) {x : Str}, fa[i]? = some (.free x) → mg x = none
  int : ∀ (i : Nat) {x : Str} {n : Int}, fa[i]? = some (.int x n) → ∃ t, mg x = some (.int n t)
  str : ∀ (i : Nat) {x z : Str}, fa[i]? = some (.str x z) → ∃ t, mg x = some (.str z t)
  xcs : (([He.ga K "NoWeight", He.ga K "NoPlace", He.ga K "NoTie", He.ga K "TooMany", He.ga K "NoSide", He.ga K "NoFlow", He.ga K "NotGreatest", He.ga K "NoTree", He.ga K "OnePlace", He.ga K "InPieces", He.ga K "NoChart", He.ga K "NoGroups", He.ga K "NoDemand", He.ga K "NoLine", He.ga K "NotThere"].all fun c => xcB K c)) = true
  kit : ((([He.ga K "NoWeight", He.ga K "NoPlace", He.ga K "NoTie", He.ga K "TooMany", He.ga K "NoSide", He.ga K "NoFlow", He.ga K "NotGreatest", He.ga K "NoTree", He.ga K "OnePlace", He.ga K "InPieces", He.ga K "NoChart", He.ga K "NoGroups", He.ga K "NoDemand", He.ga K "NoLine", He.ga K "NotThere"].zipIdx).all fun c => ([He.ga K "NoWeight", He.ga K "NoPlace", He.ga K "NoTie", He.ga K "TooMany", He.ga K "NoSide", He.ga K "NoFlow", He.ga K "NotGreatest", He.ga K "NoTree", He.ga K "OnePlace", He.ga K "InPieces", He.ga K "NoChart", He.ga K "NoGroups", He.ga K "NoDemand", He.ga K "NoLine", He.ga K "NotThere"].zipIdx).all fun d => decide (PySem.W.kitOne K (.ref c.1) (.ref d.1) = some (d.2 == c.2)))) = true
  kitC : (([He.ga K "NoWeight", He.ga K "NoPlace", He.ga K "NoTie", He.ga K "TooMany", He.ga K "NoSide", He.ga K "NoFlow", He.ga K "NotGreatest", He.ga K "NoTree", He.ga K "OnePlace", He.ga K "InPieces", He.ga K "NoChart", He.ga K "NoGroups", He.ga K "NoDemand", He.ga K "NoLine", He.ga K "NotThere"].all fun c => decide (PySem.W.kitOne K (.ref c) (.ref (He.ga K "CutError")) = some true) && decide (PySem.W.kitOne K (.ref c) (.type "ValueError") = some true))) = true
  no_at : (decide (PySem.W.findIn K (.ref (He.ga K "NoTie")) "at" = some none ∧ PySem.W.findIn K (.ref (He.ga K "NoLine")) "at" = some none ∧ PySem.W.findIn K (.ref (He.ga K "TooMany")) "most" = some none)) = true
  xi_NoTie : xiB K "NoTie" "at" = true
  xi_TooMany : xiB K "TooMany" "most" = true
  xi_NoLine : xiB K "NoLine" "at" = true
theorem Tx.cls {K mg} (T : Tx K mg) (i : Nat) {x : Str} (h : fa[i]? = some (.cls x)) : Cls K (He.ga K x) := He.cls_ok (T.says.fact i h)
theorem Tx.noat {K mg} (T : Tx K mg) (i : Nat) {x f : Str} (h : fa[i]? = some (.noat x f)) : NoAttr K (He.ga K x) f := He.noat_ok (T.says.fact i h)
theorem Tx.meth {K mg} (T : Tx K mg) (i : Nat) {x m : Str} (h : fa[i]? = some (.meth x m)) : Meth K (He.ga K x) m (He.ma K (He.ga K x) m) := He.meth_ok (T.says.fact i h)
theorem Tx.mkr {K mg} (T : Tx K mg) (i : Nat) {x : Str} (h : fa[i]? = some (.mkr x)) : Mk K (He.ga K x) (He.ma K (He.ga K x) "__init__") := He.mkr_ok (T.says.fact i h)
theorem tx_of {K : Frag} {mg : Str → Option Value} {w : World} {h : Heap} (X : K.In h) (G : h.Ns mainGlobals mg) (c : He.SaysX fa fn [] [] exB w h K) : Tx K mg := by
  have says := c.t.d
  have more := c.more
  unfold exB at more
  simp only [Bool.and_eq_true] at more
  exact ⟨says, fun i x h => He.glo_ok X G (says.fact i h), fun i x h => He.free_ok X G (says.fact i h), fun i x n h => He.int_ok X G (says.fact i h), fun i x z h => He.str_ok X G (says.fact i h), more.1.1.1.1.1.1, more.1.1.1.1.1.2, more.1.1.1.1.2, more.1.1.1.2, more.1.1.2, more.1.2, more.2⟩
theorem xi_NoTie {P : Program} {w : World} {K : Frag} {mg : Str → Option Value} {base : Heap} (T : Tx K mg) : XiC P w K mg base (He.ga K "NoTie") "at" := by
  obtain ⟨fd, F0⟩ := T.says.def_ 0 (d := d_NoTie_init) rfl
  have F : FunD K "__init__" "NoTie.__init__" (defArgs s_NoTie_init) (defBody s_NoTie_init) (defScope s_NoTie_init) [] [] (He.ma K (He.ga K "NoTie") "__init__") fd := F0
  have b : Binds K fd ["self", "at"] [] := F.bindsN fun _ _ _ _ _ _ us hl => match us, hl with | [_, _], _ => rfl
  exact xiC_of T.xi_NoTie (fnI (fun_of F) sc_NoTie_init fun cdv A outer s H E => pss_one (ps_ost (pv 0) (pv 1))) b
theorem xi_TooMany {P : Program} {w : World} {K : Frag} {mg : Str → Option Value} {base : Heap} (T : Tx K mg) : XiC P w K mg base (He.ga K "TooMany") "most" := by
  obtain ⟨fd, F0⟩ := T.says.def_ 1 (d := d_TooMany_init) rfl
  have F : FunD K "__init__" "TooMany.__init__" (defArgs s_TooMany_init) (defBody s_TooMany_init) (defScope s_TooMany_init) [] [] (He.ma K (He.ga K "TooMany") "__init__") fd := F0
  have b : Binds K fd ["self", "most"] [] := F.bindsN fun _ _ _ _ _ _ us hl => match us, hl with | [_, _], _ => rfl
  exact xiC_of T.xi_TooMany (fnI (fun_of F) sc_TooMany_init fun cdv A outer s H E => pss_one (ps_ost (pv 0) (pv 1))) b
theorem xi_NoLine {P : Program} {w : World} {K : Frag} {mg : Str → Option Value} {base : Heap} (T : Tx K mg) : XiC P w K mg base (He.ga K "NoLine") "at" := by
  obtain ⟨fd, F0⟩ := T.says.def_ 2 (d := d_NoLine_init) rfl
  have F : FunD K "__init__" "NoLine.__init__" (defArgs s_NoLine_init) (defBody s_NoLine_init) (defScope s_NoLine_init) [] [] (He.ma K (He.ga K "NoLine") "__init__") fd := F0
  have b : Binds K fd ["self", "at"] [] := F.bindsN fun _ _ _ _ _ _ us hl => match us, hl with | [_, _], _ => rfl
  exact xiC_of T.xi_NoLine (fnI (fun_of F) sc_NoLine_init fun cdv A outer s H E => pss_one (ps_ost (pv 0) (pv 1))) b
end Cw

set_option Elab.async false
set_option linter.all false
set_option maxRecDepth 100000
set_option maxHeartbeats 0
namespace Cw
open PySem PySem.Spec L2 L3
open PyProof.Rows hiding St
/-! ### promises: classes of errors -/
def clsL (K : Frag) : List Addr := [He.ga K "NoWeight", He.ga K "NoPlace", He.ga K "NoTie", He.ga K "TooMany", He.ga K "NoSide", He.ga K "NoFlow", He.ga K "NotGreatest", He.ga K "NoTree", He.ga K "OnePlace", He.ga K "InPieces", He.ga K "NoChart", He.ga K "NoGroups", He.ga K "NoDemand", He.ga K "NoLine", He.ga K "NotThere"]
def fsI (n : Int) (i : Nat) : List (Str × U) := if i = 2 ∨ i = 13 then [("at", .int n)] else if i = 3 then [("most", .int n)] else []
def isAre (M : Mp) (K : Frag) (n : Int) (as : List Addr) : Prop := as.length = 15 ∧ ∀ (i : Nat) a C, as[i]? = some a → (clsL K)[i]? = some C → M a = some (.exc C (fsI n i))
def sp_NoTie_init (K : Frag) : Sp' := fun _ _ _ _ => False
def sp_TooMany_init (K : Frag) : Sp' := fun _ _ _ _ => False
def sp_NoLine_init (K : Frag) : Sp' := fun _ _ _ _ => False
def ofL (i : Nat) : List U := (List.range 15).map fun j => .bl (j == i)
def sp__law_of (K : Frag) : Sp' := fun us M q _ => ∃ (a C : Addr) (fs : List (Str × U)) (i : Nat), us = [.ref a] ∧ M a = some (.exc C fs) ∧ (clsL K)[i]? = some C ∧ q (.lst (ofL i)) M
def sp__law_made (K : Frag) : Sp' := fun us M q _ => ∃ n : Int, us = [.int n] ∧ ∀ as M', isAre M' K n as → L3.Sub M M' → q (.lst (as.map U.ref)) M'
def sp_law (K : Frag) : Sp' := fun us M q _ => ∃ ns, us = [scriptU ns] ∧ ns.length ≤ 63 ∧ ∀ M', q (.bl true) M'
theorem size16 : (16777216 : Nat) = sizeLine := by decide
theorem szs {n : Nat} (h : Nat.ble n 1000 = true) : n ≤ sizeLine := by
  have := Nat.le_of_ble_eq_true h
  have := size16
  omega
end Cw

set_option Elab.async false
set_option linter.all false
set_option maxRecDepth 100000
set_option maxHeartbeats 0
namespace Cw
open PySem PySem.Spec L2 L3
open PyProof.Rows hiding St
open He (Dv)

def t_NoTie_init (K : Frag) : TS' :=
  (sFld K (eV 0) (eV 1) "at")
theorem j_NoTie_init {P : Program} {w : World} {K : Frag} {mg : Str → Option Value} {base : Heap} (T : Tx K mg) (cdv : Value) (A : Around) (outer : List Env) (s : Shared) (H : Hp) (E : XK) (hr : Room 0 (A.deeper (envOfC "NoTie.__init__" (defScope s_NoTie_init) s.heap.objs.size (He.ma K (He.ga K "NoTie") "__init__") cdv))) (hg : A.guards = some []) :
    QSs (cxOf (L2.CX P w) P w K mg base n_NoTie_init "NoTie.__init__" (defScope s_NoTie_init) (He.ma K (He.ga K "NoTie") "__init__") cdv A outer s H E) (defBody s_NoTie_init) (t_NoTie_init K ) :=
  (qss_one (qs_fld (qv 0) (qv 1)))
def t_TooMany_init (K : Frag) : TS' :=
  (sFld K (eV 0) (eV 1) "most")
theorem j_TooMany_init {P : Program} {w : World} {K : Frag} {mg : Str → Option Value} {base : Heap} (T : Tx K mg) (cdv : Value) (A : Around) (outer : List Env) (s : Shared) (H : Hp) (E : XK) (hr : Room 0 (A.deeper (envOfC "TooMany.__init__" (defScope s_TooMany_init) s.heap.objs.size (He.ma K (He.ga K "TooMany") "__init__") cdv))) (hg : A.guards = some []) :
    QSs (cxOf (L2.CX P w) P w K mg base n_TooMany_init "TooMany.__init__" (defScope s_TooMany_init) (He.ma K (He.ga K "TooMany") "__init__") cdv A outer s H E) (defBody s_TooMany_init) (t_TooMany_init K ) :=
  (qss_one (qs_fld (qv 0) (qv 1)))
def t_NoLine_init (K : Frag) : TS' :=
  (sFld K (eV 0) (eV 1) "at")
theorem j_NoLine_init {P : Program} {w : World} {K : Frag} {mg : Str → Option Value} {base : Heap} (T : Tx K mg) (cdv : Value) (A : Around) (outer : List Env) (s : Shared) (H : Hp) (E : XK) (hr : Room 0 (A.deeper (envOfC "NoLine.__init__" (defScope s_NoLine_init) s.heap.objs.size (He.ma K (He.ga K "NoLine") "__init__") cdv))) (hg : A.guards = some []) :
    QSs (cxOf (L2.CX P w) P w K mg base n_NoLine_init "NoLine.__init__" (defScope s_NoLine_init) (He.ma K (He.ga K "NoLine") "__init__") cdv A outer s H E) (defBody s_NoLine_init) (t_NoLine_init K ) :=
  (qss_one (qs_fld (qv 0) (qv 1)))
def t__law_of (K : Frag) : TS' :=
  (sSeq (sSet 1 (eLst (eCons (eB (rIsX K) (eCons (eV 0) (eCons (eC (.ref (He.ga K "NoWeight"))) eNil))) (eCons (eB (rIsX K) (eCons (eV 0) (eCons (eC (.ref (He.ga K "NoPlace"))) eNil))) (eCons (eB (rIsX K) (eCons (eV 0) (eCons (eC (.ref (He.ga K "NoTie"))) eNil))) eNil)))))
  (sSeq (sSet 1 (eBin rAdd (eV 1) (eLst (eCons (eB (rIsX K) (eCons (eV 0) (eCons (eC (.ref (He.ga K "TooMany"))) eNil))) (eCons (eB (rIsX K) (eCons (eV 0) (eCons (eC (.ref (He.ga K "NoSide"))) eNil))) (eCons (eB (rIsX K) (eCons (eV 0) (eCons (eC (.ref (He.ga K "NoFlow"))) eNil))) eNil))))))
  (sSeq (sSet 1 (eBin rAdd (eV 1) (eLst (eCons (eB (rIsX K) (eCons (eV 0) (eCons (eC (.ref (He.ga K "NotGreatest"))) eNil))) (eCons (eB (rIsX K) (eCons (eV 0) (eCons (eC (.ref (He.ga K "NoTree"))) eNil))) (eCons (eB (rIsX K) (eCons (eV 0) (eCons (eC (.ref (He.ga K "OnePlace"))) eNil))) eNil))))))
  (sSeq (sSet 1 (eBin rAdd (eV 1) (eLst (eCons (eB (rIsX K) (eCons (eV 0) (eCons (eC (.ref (He.ga K "InPieces"))) eNil))) (eCons (eB (rIsX K) (eCons (eV 0) (eCons (eC (.ref (He.ga K "NoChart"))) eNil))) (eCons (eB (rIsX K) (eCons (eV 0) (eCons (eC (.ref (He.ga K "NoGroups"))) eNil))) eNil))))))
  (sRet (eBin rAdd (eV 1) (eLst (eCons (eB (rIsX K) (eCons (eV 0) (eCons (eC (.ref (He.ga K "NoDemand"))) eNil))) (eCons (eB (rIsX K) (eCons (eV 0) (eCons (eC (.ref (He.ga K "NoLine"))) eNil))) (eCons (eB (rIsX K) (eCons (eV 0) (eCons (eC (.ref (He.ga K "NotThere"))) eNil))) eNil))))))))))
theorem j__law_of {P : Program} {w : World} {K : Frag} {mg : Str → Option Value} {base : Heap} (T : Tx K mg) (cdv : Value) (A : Around) (outer : List Env) (s : Shared) (H : Hp) (E : XK) (hr : Room 0 (A.deeper (envOfC "_law_of" (defScope s__law_of) s.heap.objs.size (He.ga K "_law_of") cdv))) (hg : A.guards = some []) :
    QSs (cxOf (L2.CX P w) P w K mg base n__law_of "_law_of" (defScope s__law_of) (He.ga K "_law_of") cdv A outer s H E) (defBody s__law_of) (t__law_of K ) :=
  (qss_cons (qs_set (i := 1) sc__law_of.nd (qe_lst (qa_cons (qe_B c_isX (T.free 4 rfl) bb_isinstance (qa_cons (qv 0) (qa_cons (qe_gref (T.glo 7 rfl)) qa_nil))) (qa_cons (qe_B c_isX (T.free 4 rfl) bb_isinstance (qa_cons (qv 0) (qa_cons (qe_gref (T.glo 9 rfl)) qa_nil))) (qa_cons (qe_B c_isX (T.free 4 rfl) bb_isinstance (qa_cons (qv 0) (qa_cons (qe_gref (T.glo 11 rfl)) qa_nil))) qa_nil)))))
  (qss_cons (qs_set (i := 1) sc__law_of.nd (qe_op o_add (qv 1) (qe_lst (qa_cons (qe_B c_isX (T.free 4 rfl) bb_isinstance (qa_cons (qv 0) (qa_cons (qe_gref (T.glo 12 rfl)) qa_nil))) (qa_cons (qe_B c_isX (T.free 4 rfl) bb_isinstance (qa_cons (qv 0) (qa_cons (qe_gref (T.glo 13 rfl)) qa_nil))) (qa_cons (qe_B c_isX (T.free 4 rfl) bb_isinstance (qa_cons (qv 0) (qa_cons (qe_gref (T.glo 15 rfl)) qa_nil))) qa_nil))))))
  (qss_cons (qs_set (i := 1) sc__law_of.nd (qe_op o_add (qv 1) (qe_lst (qa_cons (qe_B c_isX (T.free 4 rfl) bb_isinstance (qa_cons (qv 0) (qa_cons (qe_gref (T.glo 17 rfl)) qa_nil))) (qa_cons (qe_B c_isX (T.free 4 rfl) bb_isinstance (qa_cons (qv 0) (qa_cons (qe_gref (T.glo 19 rfl)) qa_nil))) (qa_cons (qe_B c_isX (T.free 4 rfl) bb_isinstance (qa_cons (qv 0) (qa_cons (qe_gref (T.glo 21 rfl)) qa_nil))) qa_nil))))))
  (qss_cons (qs_set (i := 1) sc__law_of.nd (qe_op o_add (qv 1) (qe_lst (qa_cons (qe_B c_isX (T.free 4 rfl) bb_isinstance (qa_cons (qv 0) (qa_cons (qe_gref (T.glo 23 rfl)) qa_nil))) (qa_cons (qe_B c_isX (T.free 4 rfl) bb_isinstance (qa_cons (qv 0) (qa_cons (qe_gref (T.glo 25 rfl)) qa_nil))) (qa_cons (qe_B c_isX (T.free 4 rfl) bb_isinstance (qa_cons (qv 0) (qa_cons (qe_gref (T.glo 27 rfl)) qa_nil))) qa_nil))))))
  (qss_one (qs_ret (qe_op o_add (qv 1) (qe_lst (qa_cons (qe_B c_isX (T.free 4 rfl) bb_isinstance (qa_cons (qv 0) (qa_cons (qe_gref (T.glo 29 rfl)) qa_nil))) (qa_cons (qe_B c_isX (T.free 4 rfl) bb_isinstance (qa_cons (qv 0) (qa_cons (qe_gref (T.glo 31 rfl)) qa_nil))) (qa_cons (qe_B c_isX (T.free 4 rfl) bb_isinstance (qa_cons (qv 0) (qa_cons (qe_gref (T.glo 32 rfl)) qa_nil))) qa_nil)))))))))))
def t__law_made (K : Frag) : TS' :=
  (sSeq (sSet 1 (eLst (eCons (eMkX (He.ga K "NoWeight")) (eCons (eMkX (He.ga K "NoPlace")) (eCons (eMkI (He.ga K "NoTie") "at" (eV 0)) (eCons (eMkI (He.ga K "TooMany") "most" (eV 0)) (eCons (eMkX (He.ga K "NoSide")) (eCons (eMkX (He.ga K "NoFlow")) (eCons (eMkX (He.ga K "NotGreatest")) (eCons (eMkX (He.ga K "NoTree")) eNil))))))))))
  (sRet (eBin rAdd (eV 1) (eLst (eCons (eMkX (He.ga K "OnePlace")) (eCons (eMkX (He.ga K "InPieces")) (eCons (eMkX (He.ga K "NoChart")) (eCons (eMkX (He.ga K "NoGroups")) (eCons (eMkX (He.ga K "NoDemand")) (eCons (eMkI (He.ga K "NoLine") "at" (eV 0)) (eCons (eMkX (He.ga K "NotThere")) eNil)))))))))))
theorem j__law_made {P : Program} {w : World} {K : Frag} {mg : Str → Option Value} {base : Heap} (T : Tx K mg) (cdv : Value) (A : Around) (outer : List Env) (s : Shared) (H : Hp) (E : XK) (hr : Room 2 (A.deeper (envOfC "_law_made" (defScope s__law_made) s.heap.objs.size (He.ga K "_law_made") cdv))) (hg : A.guards = some []) :
    QSs (cxOf (L2.CX P w) P w K mg base n__law_made "_law_made" (defScope s__law_made) (He.ga K "_law_made") cdv A outer s H E) (defBody s__law_made) (t__law_made K ) :=
  (qss_cons (qs_set (i := 1) sc__law_made.nd (qe_lst (qa_cons (qe_mkX (xrC_of (T.says.fact 8 rfl)) (T.glo 7 rfl)) (qa_cons (qe_mkX (xrC_of (T.says.fact 10 rfl)) (T.glo 9 rfl)) (qa_cons (qe_mkI (xi_NoTie T) (T.glo 11 rfl) (qv 0) hr) (qa_cons (qe_mkI (xi_TooMany T) (T.glo 12 rfl) (qv 0) hr) (qa_cons (qe_mkX (xrC_of (T.says.fact 14 rfl)) (T.glo 13 rfl)) (qa_cons (qe_mkX (xrC_of (T.says.fact 16 rfl)) (T.glo 15 rfl)) (qa_cons (qe_mkX (xrC_of (T.says.fact 18 rfl)) (T.glo 17 rfl)) (qa_cons (qe_mkX (xrC_of (T.says.fact 20 rfl)) (T.glo 19 rfl)) qa_nil))))))))))
  (qss_one (qs_ret (qe_op o_add (qv 1) (qe_lst (qa_cons (qe_mkX (xrC_of (T.says.fact 22 rfl)) (T.glo 21 rfl)) (qa_cons (qe_mkX (xrC_of (T.says.fact 24 rfl)) (T.glo 23 rfl)) (qa_cons (qe_mkX (xrC_of (T.says.fact 26 rfl)) (T.glo 25 rfl)) (qa_cons (qe_mkX (xrC_of (T.says.fact 28 rfl)) (T.glo 27 rfl)) (qa_cons (qe_mkX (xrC_of (T.says.fact 30 rfl)) (T.glo 29 rfl)) (qa_cons (qe_mkI (xi_NoLine T) (T.glo 31 rfl) (qv 0) hr) (qa_cons (qe_mkX (xrC_of (T.says.fact 33 rfl)) (T.glo 32 rfl)) qa_nil))))))))))))
def t_law (K : Frag) : TS' :=
  (sSeq (sSet 1 (eBin rMod (eBin rIx (eBin rAdd (eV 0) (eLst (eCons (eC (.int 7)) eNil))) (eC (.int 0))) (eBin rPow (eC (.int 10)) (eC (.int 30)))))
  (sSeq (sFor (iSeq (eLst (eCons (eV 1) (eCons (eC (.int 0)) (eCons (eC (.int 40)) (eCons (eBin rPow (eC (.int 10)) (eC (.int 30))) eNil)))))) (gN 2)
    (sSeq (sSet 3 (eCall (sp__law_made K) noW (eCons (eV 2) eNil)))
    (sSeq (sFor (iRange (eCons (eC (.int 15)) eNil)) (gN 4)
      (sSeq (sIf (tOr' (tNot' (tB' (eB (rIsX K) (eCons (eBin rIx (eV 3) (eV 4)) (eCons (eC (.ref (He.ga K "CutError"))) eNil))))) (tNot' (tB' (eB (rIsX K) (eCons (eBin rIx (eV 3) (eV 4)) (eCons (eC (.ty "ValueError")) eNil))))))
        (sRet (eC (.bl false)))
        sNext)
      (sIf (tB' (eBin rNe (eCall (sp__law_of K) noW (eCons (eBin rIx (eV 3) (eV 4)) eNil)) (eLc (iRange (eCons (eC (.int 15)) eNil)) (gN 5) tYes' (eBin rEq (eV 5) (eV 4)) [5])))
        (sRet (eC (.bl false)))
        sNext)))
    (sIf (tB' (eBin rNe (eLst (eCons (eFldX K (eBin rIx (eV 3) (eC (.int 2))) "at") (eCons (eFldX K (eBin rIx (eV 3) (eC (.int 3))) "most") (eCons (eFldX K (eBin rIx (eV 3) (eC (.int 13))) "at") eNil)))) (eBin rMul' (eLst (eCons (eV 2) eNil)) (eC (.int 3)))))
      (sRet (eC (.bl false)))
      sNext))))
  (sRet (eC (.bl true)))))
theorem j_law {P : Program} {w : World} {K : Frag} {mg : Str → Option Value} {base : Heap} (T : Tx K mg) (D__law_made : Def' P w K mg base 3 (He.ga K "_law_made") ["_law_number"] (sp__law_made K)) (D__law_of : Def' P w K mg base 1 (He.ga K "_law_of") ["_law_error"] (sp__law_of K)) (cdv : Value) (A : Around) (outer : List Env) (s : Shared) (H : Hp) (E : XK) (hr : Room 3 (A.deeper (envOfC "law" (defScope s_law) s.heap.objs.size (He.ga K "law") cdv))) (hg : A.guards = some []) :
    QSs (cxOf (L2.CX P w) P w K mg base n_law "law" (defScope s_law) (He.ga K "law") cdv A outer s H E) (defBody s_law) (t_law K ) :=
  (qss_cons (qs_set (i := 1) sc_law.nd (qe_op o_mod (qe_ix (hu_of hr) (qe_op o_add (qv 0) (qe_lst (qa_cons qe_int qa_nil))) qe_int) (qe_op o_pow qe_int qe_int)))
  (qss_cons (qs_for (passes_of rfl) rfl (qi_seq (qe_lst (qa_cons (qv 1) (qa_cons qe_int (qa_cons qe_int (qa_cons (qe_op o_pow qe_int qe_int) qa_nil)))))) (qg_name (i := 2) sc_law.nd)
    (qss_cons (qs_set (i := 3) sc_law.nd (qd_call D__law_made hr hg tk_no (T.glo 1 rfl) (qa_cons (qv 2) qa_nil)))
    (qss_cons (qs_for (passes_of rfl) rfl (qi_range (T.free 5 rfl) (qa_cons qe_int qa_nil)) (qg_name (i := 4) sc_law.nd)
      (qss_cons (qs_if (QW.pt (qw_or (qt_not (qt_val (qe_B c_isX (T.free 4 rfl) bb_isinstance (qa_cons (qe_ix (hu_of hr) (qv 3) (qv 4)) (qa_cons (qe_gref (T.glo 6 rfl)) qa_nil))))) (qw_or1 (qt_not (qt_val (qe_B c_isX (T.free 4 rfl) bb_isinstance (qa_cons (qe_ix (hu_of hr) (qv 3) (qv 4)) (qa_cons (qe_ty (T.free 3 rfl) bb_ValueError) qa_nil))))))))
        (qss_one (qs_ret qe_bl))
        qss_nil)
      (qss_one (qs_if (qt_cmp (o_ne hr.units) (qd_call D__law_of hr hg tk_no (T.glo 0 rfl) (qa_cons (qe_ix (hu_of hr) (qv 3) (qv 4)) qa_nil)) (qe_lc rfl sc_law.nd (qi_range (T.free 5 rfl) (qa_cons qe_int qa_nil)) (own := [("_law_other", 5)]) (blk_ok (by kernel_rfl)) (fun _ _ _ _ _ => (qv_name (i := 5) sc_law.nd)) (fun _ _ _ _ _ => qts_nil) (fun _ _ _ _ _ => (qe_cmp (o_eq hr.units) (qv 5) (qv 4) (nomark _)))) (nomark _))
        (qss_one (qs_ret qe_bl))
        qss_nil))))
    (qss_one (qs_if (qt_cmp (o_ne hr.units) (qe_lst (qa_cons (qe_fldX (qe_ix (hu_of hr) (qv 3) qe_int)) (qa_cons (qe_fldX (qe_ix (hu_of hr) (qv 3) qe_int)) (qa_cons (qe_fldX (qe_ix (hu_of hr) (qv 3) qe_int)) qa_nil)))) (qe_op o_mul (qe_lst (qa_cons (qv 2) qa_nil)) qe_int) (nomark _))
      (qss_one (qs_ret qe_bl))
      qss_nil)))))
  (qss_one (qs_ret qe_bl))))
end Cw

set_option Elab.async false
set_option linter.all false
set_option maxRecDepth 100000
set_option maxHeartbeats 0
namespace Cw
open PySem PySem.Spec L2 L3
open PyProof.Rows hiding St
theorem r__law_made {K us M q e} (h : sp__law_made K us M q e) : t__law_made K { nx := fun _ M' => Gz q .non M', rt := Gz q } (startU n__law_made.length us) M := by
  obtain ⟨n, rfl, hq⟩ := h
  intro a0 h0
  intro a1 h1
  intro a2 h2
  intro a3 h3
  intro a4 h4
  intro a5 h5
  intro a6 h6
  intro a7 h7
  refine ⟨szs rfl, .inl ?_⟩
  intro a8 h8
  intro a9 h9
  intro a10 h10
  intro a11 h11
  intro a12 h12
  intro a13 h13
  intro a14 h14
  refine ⟨szs rfl, .inl ?_⟩
  refine ⟨_, _, rfl, rfl, szs rfl, .inl ?_⟩
  refine .here ?_
  refine hq [a0, a1, a2, a3, a4, a5, a6, a7, a8, a9, a10, a11, a12, a13, a14] _ ⟨rfl, fun i a C ha hC => ?_⟩ (fun b o e => (Sub.put h14) _ _ ((Sub.put h13) _ _ ((Sub.put h12) _ _ ((Sub.put h11) _ _ ((Sub.put h10) _ _ ((Sub.put h9) _ _ ((Sub.put h8) _ _ ((Sub.put h7) _ _ ((Sub.put h6) _ _ ((Sub.put h5) _ _ ((Sub.put h4) _ _ ((Sub.put h3) _ _ ((Sub.put h2) _ _ ((Sub.put h1) _ _ ((Sub.put h0) _ _ (e))))))))))))))))
  match i, ha, hC with
  | 0, ha, hC => cases ha; cases hC; exact (Sub.put h14) _ _ ((Sub.put h13) _ _ ((Sub.put h12) _ _ ((Sub.put h11) _ _ ((Sub.put h10) _ _ ((Sub.put h9) _ _ ((Sub.put h8) _ _ ((Sub.put h7) _ _ ((Sub.put h6) _ _ ((Sub.put h5) _ _ ((Sub.put h4) _ _ ((Sub.put h3) _ _ ((Sub.put h2) _ _ ((Sub.put h1) _ _ (put_same))))))))))))))
  | 1, ha, hC => cases ha; cases hC; exact (Sub.put h14) _ _ ((Sub.put h13) _ _ ((Sub.put h12) _ _ ((Sub.put h11) _ _ ((Sub.put h10) _ _ ((Sub.put h9) _ _ ((Sub.put h8) _ _ ((Sub.put h7) _ _ ((Sub.put h6) _ _ ((Sub.put h5) _ _ ((Sub.put h4) _ _ ((Sub.put h3) _ _ ((Sub.put h2) _ _ (put_same)))))))))))))
  | 2, ha, hC => cases ha; cases hC; exact (Sub.put h14) _ _ ((Sub.put h13) _ _ ((Sub.put h12) _ _ ((Sub.put h11) _ _ ((Sub.put h10) _ _ ((Sub.put h9) _ _ ((Sub.put h8) _ _ ((Sub.put h7) _ _ ((Sub.put h6) _ _ ((Sub.put h5) _ _ ((Sub.put h4) _ _ ((Sub.put h3) _ _ (put_same))))))))))))
  | 3, ha, hC => cases ha; cases hC; exact (Sub.put h14) _ _ ((Sub.put h13) _ _ ((Sub.put h12) _ _ ((Sub.put h11) _ _ ((Sub.put h10) _ _ ((Sub.put h9) _ _ ((Sub.put h8) _ _ ((Sub.put h7) _ _ ((Sub.put h6) _ _ ((Sub.put h5) _ _ ((Sub.put h4) _ _ (put_same)))))))))))
  | 4, ha, hC => cases ha; cases hC; exact (Sub.put h14) _ _ ((Sub.put h13) _ _ ((Sub.put h12) _ _ ((Sub.put h11) _ _ ((Sub.put h10) _ _ ((Sub.put h9) _ _ ((Sub.put h8) _ _ ((Sub.put h7) _ _ ((Sub.put h6) _ _ ((Sub.put h5) _ _ (put_same))))))))))
  | 5, ha, hC => cases ha; cases hC; exact (Sub.put h14) _ _ ((Sub.put h13) _ _ ((Sub.put h12) _ _ ((Sub.put h11) _ _ ((Sub.put h10) _ _ ((Sub.put h9) _ _ ((Sub.put h8) _ _ ((Sub.put h7) _ _ ((Sub.put h6) _ _ (put_same)))))))))
  | 6, ha, hC => cases ha; cases hC; exact (Sub.put h14) _ _ ((Sub.put h13) _ _ ((Sub.put h12) _ _ ((Sub.put h11) _ _ ((Sub.put h10) _ _ ((Sub.put h9) _ _ ((Sub.put h8) _ _ ((Sub.put h7) _ _ (put_same))))))))
  | 7, ha, hC => cases ha; cases hC; exact (Sub.put h14) _ _ ((Sub.put h13) _ _ ((Sub.put h12) _ _ ((Sub.put h11) _ _ ((Sub.put h10) _ _ ((Sub.put h9) _ _ ((Sub.put h8) _ _ (put_same)))))))
  | 8, ha, hC => cases ha; cases hC; exact (Sub.put h14) _ _ ((Sub.put h13) _ _ ((Sub.put h12) _ _ ((Sub.put h11) _ _ ((Sub.put h10) _ _ ((Sub.put h9) _ _ (put_same))))))
  | 9, ha, hC => cases ha; cases hC; exact (Sub.put h14) _ _ ((Sub.put h13) _ _ ((Sub.put h12) _ _ ((Sub.put h11) _ _ ((Sub.put h10) _ _ (put_same)))))
  | 10, ha, hC => cases ha; cases hC; exact (Sub.put h14) _ _ ((Sub.put h13) _ _ ((Sub.put h12) _ _ ((Sub.put h11) _ _ (put_same))))
  | 11, ha, hC => cases ha; cases hC; exact (Sub.put h14) _ _ ((Sub.put h13) _ _ ((Sub.put h12) _ _ (put_same)))
  | 12, ha, hC => cases ha; cases hC; exact (Sub.put h14) _ _ ((Sub.put h13) _ _ (put_same))
  | 13, ha, hC => cases ha; cases hC; exact (Sub.put h14) _ _ (put_same)
  | 14, ha, hC => cases ha; cases hC; exact put_same
  | i + 15, ha, hC => cases ha
theorem kit_of {K : Frag} (h : (((clsL K).zipIdx).all fun c => ((clsL K).zipIdx).all fun d => decide (PySem.W.kitOne K (.ref c.1) (.ref d.1) = some (d.2 == c.2))) = true) {i j : Nat} {C D : Addr} (hi : (clsL K)[i]? = some C) (hj : (clsL K)[j]? = some D) :
    PySem.W.kitOne K (.ref C) (.ref D) = some (j == i) := by
  have hi' : (C, i) ∈ (clsL K).zipIdx := List.mem_zipIdx_iff_getElem?.mpr hi
  have hj' : (D, j) ∈ (clsL K).zipIdx := List.mem_zipIdx_iff_getElem?.mpr hj
  have h1 := List.all_eq_true.mp (List.all_eq_true.mp h _ hi') _ hj'
  exact of_decide_eq_true h1
structure Kits (K : Frag) : Prop where
  xc : ∀ C ∈ clsL K, XcC K C
  kit : ∀ (i j : Nat) (C D : Addr), (clsL K)[i]? = some C → (clsL K)[j]? = some D → PySem.W.kitOne K (.ref C) (.ref D) = some (j == i)
  cut : ∀ C ∈ clsL K, PySem.W.kitOne K (.ref C) (.ref (He.ga K "CutError")) = some true
  ve : ∀ C ∈ clsL K, PySem.W.kitOne K (.ref C) (.type "ValueError") = some true
  at2 : PySem.W.findIn K (.ref (He.ga K "NoTie")) "at" = some none
  at13 : PySem.W.findIn K (.ref (He.ga K "NoLine")) "at" = some none
  most : PySem.W.findIn K (.ref (He.ga K "TooMany")) "most" = some none
theorem kits {K : Frag} {mg : Str → Option Value} (T : Tx K mg) : Kits K := by
  have h1 := T.xcs
  have h2 := T.kit
  have h3 := T.kitC
  obtain ⟨h4, h5, h6⟩ := of_decide_eq_true T.no_at
  refine ⟨fun C hC => xcB_ok (List.all_eq_true.mp h1 C hC), fun i j C D hi hj => kit_of h2 hi hj, fun C hC => ?_, fun C hC => ?_, h4, h5, h6⟩
  · have := List.all_eq_true.mp h3 C hC
    rw [Bool.and_eq_true] at this
    exact of_decide_eq_true this.1
  · have := List.all_eq_true.mp h3 C hC
    rw [Bool.and_eq_true] at this
    exact of_decide_eq_true this.2
theorem r__law_of {K us M q e} (k : Kits K) (h : sp__law_of K us M q e) : t__law_of K { nx := fun _ M' => Gz q .non M', rt := Gz q } (startU n__law_of.length us) M := by
  obtain ⟨a, C, fs, i, rfl, ha, hC, hq⟩ := h
  have hx := k.xc C (List.mem_of_getElem? hC)
  refine ⟨a, C, fs, _, _, rfl, ha, hx, rfl, k.kit i 0 C _ hC rfl, ?_⟩
  refine ⟨a, C, fs, _, _, rfl, ha, hx, rfl, k.kit i 1 C _ hC rfl, ?_⟩
  refine ⟨a, C, fs, _, _, rfl, ha, hx, rfl, k.kit i 2 C _ hC rfl, ?_⟩
  refine ⟨szs rfl, .inl ?_⟩
  refine ⟨a, C, fs, _, _, rfl, ha, hx, rfl, k.kit i 3 C _ hC rfl, ?_⟩
  refine ⟨a, C, fs, _, _, rfl, ha, hx, rfl, k.kit i 4 C _ hC rfl, ?_⟩
  refine ⟨a, C, fs, _, _, rfl, ha, hx, rfl, k.kit i 5 C _ hC rfl, ?_⟩
  refine ⟨szs rfl, .inl ?_⟩
  refine ⟨_, _, rfl, rfl, szs rfl, .inl ?_⟩
  refine ⟨a, C, fs, _, _, rfl, ha, hx, rfl, k.kit i 6 C _ hC rfl, ?_⟩
  refine ⟨a, C, fs, _, _, rfl, ha, hx, rfl, k.kit i 7 C _ hC rfl, ?_⟩
  refine ⟨a, C, fs, _, _, rfl, ha, hx, rfl, k.kit i 8 C _ hC rfl, ?_⟩
  refine ⟨szs rfl, .inl ?_⟩
  refine ⟨_, _, rfl, rfl, szs rfl, .inl ?_⟩
  refine ⟨a, C, fs, _, _, rfl, ha, hx, rfl, k.kit i 9 C _ hC rfl, ?_⟩
  refine ⟨a, C, fs, _, _, rfl, ha, hx, rfl, k.kit i 10 C _ hC rfl, ?_⟩
  refine ⟨a, C, fs, _, _, rfl, ha, hx, rfl, k.kit i 11 C _ hC rfl, ?_⟩
  refine ⟨szs rfl, .inl ?_⟩
  refine ⟨_, _, rfl, rfl, szs rfl, .inl ?_⟩
  refine ⟨a, C, fs, _, _, rfl, ha, hx, rfl, k.kit i 12 C _ hC rfl, ?_⟩
  refine ⟨a, C, fs, _, _, rfl, ha, hx, rfl, k.kit i 13 C _ hC rfl, ?_⟩
  refine ⟨a, C, fs, _, _, rfl, ha, hx, rfl, k.kit i 14 C _ hC rfl, ?_⟩
  refine ⟨szs rfl, .inl ?_⟩
  refine ⟨_, _, rfl, rfl, szs rfl, .inl ?_⟩
  exact .here hq
end Cw

set_option Elab.async false
set_option linter.all false
set_option maxRecDepth 100000
set_option maxHeartbeats 0
namespace Cw
open PySem PySem.Spec L2 L3
open PyProof.Rows hiding St
theorem dTs_map' {α : Type} {f : α → U} {g : α → PyData} : ∀ {l : List α}, (∀ x ∈ l, dT (f x) = some (g x)) → dTs (l.map f) = some (l.map g)
  | [], _ => rfl
  | x :: l, h => by
    rw [List.map_cons, List.map_cons]
    unfold dTs
    rw [h x (List.mem_cons_self ..), dTs_map' fun y hy => h y (List.mem_cons_of_mem _ hy)]
theorem canLay_flat : ∀ ds : List PyData, (∀ d ∈ ds, d.canLay0 = true ∧ d.depth = 0) → PyData.canLayAll0 ds = true ∧ PyData.depthAll ds = 0
  | [], _ => ⟨rfl, rfl⟩
  | d :: ds, h => by
    obtain ⟨h1, h2⟩ := canLay_flat ds fun t ht => h t (List.mem_cons_of_mem _ ht)
    obtain ⟨h3, h4⟩ := h d (List.mem_cons_self ..)
    exact ⟨by simp [PyData.canLayAll0, h1, h3], by simp [PyData.depthAll, h2, h4]⟩
theorem okD_flat {ds : List PyData} (h : ∀ d ∈ ds, d.canLay0 = true ∧ d.depth = 0) : okD (.list ds) := by
  obtain ⟨h1, h2⟩ := canLay_flat ds h
  unfold okD SeqAt.shaped
  simp [PyData.canLay0, PyData.depth, h1, h2]
theorem eqvAll_refl : ∀ ds : List PyData, (∀ d ∈ ds, PyData.eqv d d = true) → PyData.eqvAll ds ds = true
  | [], _ => by simp [PyData.eqvAll]
  | d :: ds, h => by
    simp [PyData.eqvAll, h d (List.mem_cons_self ..), eqvAll_refl ds fun e he => h e (List.mem_cons_of_mem _ he)]
theorem ne_bools {bs : List Bool} {M : Mp} {q : QK} (hq : q (.bl false) M) : rNe (.lst (bs.map U.bl)) (.lst (bs.map U.bl)) M q := by
  have e : dTs (bs.map U.bl) = some (bs.map PyData.bool) := dTs_map' fun b _ => rfl
  have ok : okD (.list (bs.map PyData.bool)) := okD_flat fun d hd => by
    obtain ⟨b, _, rfl⟩ := List.mem_map.mp hd
    simp [PyData.canLay0, PyData.depth]
  refine ⟨.list (bs.map PyData.bool), .list (bs.map PyData.bool), ?_, ?_, ok, ok, ?_⟩
  · show (dTs (bs.map U.bl)).map PyData.list = _; rw [e]; rfl
  · show (dTs (bs.map U.bl)).map PyData.list = _; rw [e]; rfl
  · have := eqvAll_refl (bs.map PyData.bool) fun d hd => by
      obtain ⟨b, _, rfl⟩ := List.mem_map.mp hd
      simp [PyData.eqv]
    rw [show PyData.eqv (.list (bs.map PyData.bool)) (.list (bs.map PyData.bool)) = true by simp [PyData.eqv, this]]
    exact hq
theorem ne_ints {ns : List Int} {M : Mp} {q : QK} (hq : q (.bl false) M) : rNe (.lst (ns.map U.int)) (.lst (ns.map U.int)) M q := by
  have e : dTs (ns.map U.int) = some (ns.map PyData.int) := dTs_map' fun b _ => rfl
  have ok : okD (.list (ns.map PyData.int)) := okD_flat fun d hd => by
    obtain ⟨b, _, rfl⟩ := List.mem_map.mp hd
    simp [PyData.canLay0, PyData.depth]
  refine ⟨.list (ns.map PyData.int), .list (ns.map PyData.int), ?_, ?_, ok, ok, ?_⟩
  · show (dTs (ns.map U.int)).map PyData.list = _; rw [e]; rfl
  · show (dTs (ns.map U.int)).map PyData.list = _; rw [e]; rfl
  · have := eqvAll_refl (ns.map PyData.int) fun d hd => by
      obtain ⟨b, _, rfl⟩ := List.mem_map.mp hd
      simp [PyData.eqv]
    rw [show PyData.eqv (.list (ns.map PyData.int)) (.list (ns.map PyData.int)) = true by simp [PyData.eqv, this]]
    exact hq
theorem w15 : w62 15 := ⟨by decide, by decide⟩
theorem pow30 : CPow 10 30 := ⟨by decide, by decide, by decide⟩
def isAt (i : Nat) (u : U) : U := match u with
  | .int j => .bl (decide (j = (i : Int)))
  | u => u
theorem isAt_range (i : Nat) : (rangeU 0 15).map (isAt i) = ofL i := by
  unfold rangeU ofL
  rw [List.map_map]
  refine List.map_congr_left fun j hj => ?_
  show U.bl (decide ((0 : Int) + (j : Int) = (i : Int))) = U.bl (j == i)
  congr 1
  rw [Bool.eq_iff_iff]
  simp
  omega
theorem ofL_bl (i : Nat) : ofL i = ((List.range 15).map fun j => (j == i)).map U.bl := by
  unfold ofL
  rw [List.map_map]; rfl
theorem r_law {K us M q e} (k : Kits K) (h : sp_law K us M q e) : t_law K { nx := fun _ M' => Gz q .non M', rt := Gz q } (startU n_law.length us) M := by
  obtain ⟨ns, rfl, hns, hq⟩ := h
  have hsz := size16
  refine ⟨szs rfl, .inl ?_⟩
  refine ⟨_, _, rfl, rfl, by rw [List.length_map]; show _ + 1 ≤ _; omega, .inl ?_⟩
  obtain ⟨v, hv⟩ : ∃ v : Int, atI (ns.map U.int ++ [.int 7]) 0 = some (.int v) := by
    cases ns with
    | nil => exact ⟨7, rfl⟩
    | cons a r => exact ⟨a, atI_nat (j := 0) rfl⟩
  refine seqF_ix rfl hv ?_
  refine ⟨pow30, ?_⟩
  refine ⟨by show (0 : Int) < 10 ^ 30; decide, ?_⟩
  refine ⟨pow30, ?_⟩
  refine ⟨szs rfl, .inl ?_⟩
  refine seqF_iter rfl fun side hs => ?_
  refine ⟨fun i z M' => ∃ o1 o2 o3 o4, z = [some (scriptU ns), o1, o2, o3, o4, none], ⟨_, _, _, _, rfl⟩, fun _ _ _ _ => hs _, ?_, ?_⟩
  · rintro i x z M1 hx ⟨o1, o2, o3, o4, rfl⟩
    obtain ⟨n, rfl⟩ : ∃ n : Int, x = .int n := by
      have := List.mem_of_getElem? hx
      simp only [List.mem_cons, List.not_mem_nil, or_false] at this
      rcases this with rfl | rfl | rfl | rfl <;> exact ⟨_, rfl⟩
    refine ⟨n, rfl, fun as M2 hA s2 => ?_⟩
    have hal := hA.1
    have hget : ∀ i, i < 15 → ∃ a C, as[i]? = some a ∧ (clsL K)[i]? = some C ∧ M2 a = some (.exc C (fsI n i)) := fun i hi => by
      have h1 : as[i]? = some as[i] := List.getElem?_eq_getElem (by omega)
      have hc : i < (clsL K).length := hi
      have h2 : (clsL K)[i]? = some (clsL K)[i] := List.getElem?_eq_getElem hc
      exact ⟨_, _, h1, h2, hA.2 i _ _ h1 h2⟩
    have hat : ∀ (i : Nat) (a : Addr), as[i]? = some a → atI (as.map U.ref) (i : Int) = some (.ref a) := fun i a h => atI_nat (by rw [List.getElem?_map, h]; rfl)
    refine ⟨w15, ?_⟩
    refine ⟨fun i z M' => (∃ o4, z = [some (scriptU ns), o1, some (.int n), some (.lst (as.map U.ref)), o4, none]) ∧ M' = M2, ⟨⟨_, rfl⟩, rfl⟩, fun _ _ _ _ => trivial, ?_, ?_⟩
    · rintro i x z M3 hx ⟨⟨o4, rfl⟩, rfl⟩
      obtain ⟨rfl, hi⟩ : x = .int (i : Int) ∧ i < 15 := by
        obtain ⟨h1, h2⟩ := rangeU_get hx
        exact ⟨by rw [h2, Int.zero_add], h1⟩
      obtain ⟨a, C, h1, h2, h3⟩ := hget i hi
      have hx := k.xc C (List.mem_of_getElem? h2)
      refine seqF_ix rfl (hat i a h1) ?_
      refine ⟨a, C, _, _, _, rfl, h3, hx, rfl, k.cut C (List.mem_of_getElem? h2), ?_⟩
      refine seqF_ix rfl (hat i a h1) ?_
      refine ⟨a, C, _, _, _, rfl, h3, hx, rfl, k.ve C (List.mem_of_getElem? h2), ?_⟩
      refine seqF_ix rfl (hat i a h1) ?_
      refine ⟨a, C, _, i, rfl, h3, h2, ?_⟩
      refine ⟨w15, ?_⟩
      refine lc_map (isAt i) (fun M' _ => trivial) (szs (by rfl)) (fun x hx' M' _ k hk => ?_) ?_
      · obtain ⟨j, _, rfl⟩ := List.mem_map.mp hx'
        exact hk
      rw [show (15 : Int).toNat = 15 from rfl, isAt_range, ofL_bl]
      refine ne_bools ?_
      exact ⟨⟨_, rfl⟩, rfl⟩
    · rintro z M3 ⟨⟨o4, rfl⟩, rfl⟩
      obtain ⟨a2, C2, h21, h22, h23⟩ := hget 2 (by decide)
      obtain ⟨a3, C3, h31, h32, h33⟩ := hget 3 (by decide)
      obtain ⟨a4, C4, h41, h42, h43⟩ := hget 13 (by decide)
      cases h22; cases h32; cases h42
      refine seqF_ix rfl (hat 2 a2 h21) ?_
      refine ⟨a2, _, _, .int n, rfl, h23, k.xc _ (by simp [clsL]), k.at2, rfl, ?_⟩
      refine seqF_ix rfl (hat 3 a3 h31) ?_
      refine ⟨a3, _, _, .int n, rfl, h33, k.xc _ (by simp [clsL]), k.most, rfl, ?_⟩
      refine seqF_ix rfl (hat 13 a4 h41) ?_
      refine ⟨a4, _, _, .int n, rfl, h43, k.xc _ (by simp [clsL]), k.at13, rfl, ?_⟩
      refine ⟨szs rfl, .inl ?_⟩
      refine ⟨szs rfl, .inr fun p hp => ?_⟩
      refine ⟨_, put_same, by decide, by decide, szs rfl, .inl ?_⟩
      refine ne_ints (ns := [n, n, n]) ?_
      exact ⟨_, _, _, _, rfl⟩
  · rintro z M1 ⟨o1, o2, o3, o4, rfl⟩
    exact .here (hq M1)
end Cw

set_option Elab.async false
set_option linter.all false
set_option maxRecDepth 100000
set_option maxHeartbeats 0
namespace Cw
open PySem PySem.Spec L2 L3
open PyProof.Rows hiding St
open He (Dv)

theorem ok__law_made {P : Program} {w : World} {K : Frag} {mg : Str → Option Value} {base : Heap} (T : Tx K mg) : Def' P w K mg base 3 (He.ga K "_law_made") ["_law_number"] (sp__law_made K) := by
  obtain ⟨fd, F0⟩ := T.says.def_ 4 (d := d__law_made) rfl
  have F : FunD K "_law_made" "_law_made" (defArgs s__law_made) (defBody s__law_made) (defScope s__law_made) [] [] (He.ga K "_law_made") fd := F0
  have b : Binds K fd ["_law_number"] [] := F.bindsN fun _ _ _ _ _ _ us hl => match us, hl with | [_], _ => rfl
  exact ⟨⟨fd, b, fn_tree (fun_of F) sc__law_made (fun us M q e h => by first | (obtain ⟨_, rfl, _⟩ := h; rfl) | (obtain ⟨_, _, rfl, _⟩ := h; rfl) | (obtain ⟨_, _, _, rfl, _⟩ := h; rfl) | (obtain ⟨_, _, _, _, rfl, _⟩ := h; rfl) | (obtain ⟨_, _, _, _, _, rfl, _⟩ := h; rfl) | (obtain ⟨_, _, _, _, _, _, rfl, _⟩ := h; rfl) | (obtain ⟨_, _, _, ⟨rfl, _⟩, _⟩ := h; rfl) | exact h.elim) fun cdv A outer s H E us M q e hr hg tk h => ⟨_, j__law_made T cdv A outer s H E hr hg, r__law_made h⟩⟩, F.kp⟩
theorem ok__law_of {P : Program} {w : World} {K : Frag} {mg : Str → Option Value} {base : Heap} (T : Tx K mg) : Def' P w K mg base 1 (He.ga K "_law_of") ["_law_error"] (sp__law_of K) := by
  obtain ⟨fd, F0⟩ := T.says.def_ 3 (d := d__law_of) rfl
  have F : FunD K "_law_of" "_law_of" (defArgs s__law_of) (defBody s__law_of) (defScope s__law_of) [] [] (He.ga K "_law_of") fd := F0
  have b : Binds K fd ["_law_error"] [] := F.bindsN fun _ _ _ _ _ _ us hl => match us, hl with | [_], _ => rfl
  exact ⟨⟨fd, b, fn_tree (fun_of F) sc__law_of (fun us M q e h => by first | (obtain ⟨_, rfl, _⟩ := h; rfl) | (obtain ⟨_, _, rfl, _⟩ := h; rfl) | (obtain ⟨_, _, _, rfl, _⟩ := h; rfl) | (obtain ⟨_, _, _, _, rfl, _⟩ := h; rfl) | (obtain ⟨_, _, _, _, _, rfl, _⟩ := h; rfl) | (obtain ⟨_, _, _, _, _, _, rfl, _⟩ := h; rfl) | (obtain ⟨_, _, _, ⟨rfl, _⟩, _⟩ := h; rfl) | exact h.elim) fun cdv A outer s H E us M q e hr hg tk h => ⟨_, j__law_of T cdv A outer s H E hr hg, r__law_of (kits T) h⟩⟩, F.kp⟩
theorem facts {P : Program} {w : World} {K : Frag} {h : Heap} {mg : Str → Option Value} {f : Addr} (X : K.In h) (G : h.Ns mainGlobals mg) (hfa : mg ("law" : Str) = some (.ref f)) (c : He.SaysX fa fn [] [] exB w h K) :
    ∃ fd : FuncData, (∀ (s : Shared) (v : Value), BindsTo s fd ⟨[v], []⟩ [("_law_script", v)]) ∧ ∀ base : Heap, K.In base → base.Ns mainGlobals mg → FnG P w K mg base 4 f fd ["_law_script"] (lowSp K (sp_law K)) := by
  have T := tx_of (w := w) X G c
  have e := hfa.symm.trans (T.glo 2 rfl)
  cases e
  obtain ⟨fd, F0⟩ := T.says.def_ 5 (d := d_law) rfl
  have F : FunD K "law" "law" (defArgs s_law) (defBody s_law) (defScope s_law) [] [] (He.ga K "law") fd := F0
  have b : Binds K fd ["_law_script"] [] := F.bindsN fun _ _ _ _ _ _ us hl => match us, hl with | [_], _ => rfl
  have bA := FunD.bindsA (ps := ["_law_script"]) F fun _ _ _ _ _ _ us hl => match us, hl with | [_], _ => rfl
  exact ⟨fd, fun s v => bA s [v] rfl, fun base _ _ => fn_tree (fun_of F) sc_law (fun us M q e h => by first | (obtain ⟨_, rfl, _⟩ := h; rfl) | (obtain ⟨_, _, rfl, _⟩ := h; rfl) | (obtain ⟨_, _, _, rfl, _⟩ := h; rfl) | (obtain ⟨_, _, _, _, rfl, _⟩ := h; rfl) | (obtain ⟨_, _, _, _, _, rfl, _⟩ := h; rfl) | (obtain ⟨_, _, _, _, _, _, rfl, _⟩ := h; rfl) | (obtain ⟨_, _, _, ⟨rfl, _⟩, _⟩ := h; rfl) | exact h.elim) fun cdv A outer s H E us M q e hr hg tk h => ⟨_, j_law T (ok__law_made T) (ok__law_of T) cdv A outer s H E hr hg, r_law (kits T) h⟩⟩
end Cw
open PySem PySem.W PySem.Calls PyProof.Rows
set_option maxRecDepth 100000 in
set_option maxHeartbeats 0 in
theorem PySem.Challenge.cw_cutstree_k90_classes_holds : PySem.Challenge.rw_cutstree_k90_classes.Holds := by
  w_on; o_law
  refine HandSHeadRun.head_any (r := OpenLaw.row PySem.Challenge.rw_cutstree_k90_classes) (q := view (OpenLaw.row PySem.Challenge.rw_cutstree_k90_classes).prog [20]) (H := Cw.hk) (ob := Cw.ob) (M := 9000) (loose := Cw.loose) (d := HandSHeadRun.topDef (OpenLaw.row PySem.Challenge.rw_cutstree_k90_classes).prog 20) (kwd := []) Cw.ob_eq
    (by kernel_rfl) (fun s => by kernel_rfl) Cw.run (by kernel_rfl) (by kernel_rfl) (by kernel_rfl) (by rfl) (by first | assumption | decide +kernel) (by decide +kernel) ⟨rfl, rfl, rfl, rfl, rfl, by decide +kernel⟩ ?hw ?hc
  case hw => w_witness2
  case hc =>
    refine L3.walk_treeE (l := PySem.Challenge.rw_cutstree_k90_classes) (n := 63) (k := 4) (x := "_law_script") rfl (by decide) (by kernel_rfl) ⟨rfl, by decide, by decide⟩ ?F
    intro w mg fa h Y G hmg0
    obtain ⟨K, KX, c⟩ := Y
    have hmg : mg ("law" : PySem.Str) = some (.ref fa) := by
      have e : (HandSHeadRun.topDef (OpenLaw.row PySem.Challenge.rw_cutstree_k90_classes).prog 20).name = ("law" : PySem.Str) := by kernel_rfl
      rw [← e]
      exact hmg0
    obtain ⟨fd, hb, hF⟩ := Cw.facts (P := PySem.Challenge.rw_cutstree_k90_classes.prog) (w := w) KX G hmg c
    exact ⟨K, fd, Cw.sp_law K, KX, hb, fun ns hl => ⟨ns, rfl, hl, fun _ => rfl⟩, hF⟩


