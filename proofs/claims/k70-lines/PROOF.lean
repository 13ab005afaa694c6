import PyProof.Rows.All
import Wide.All
import OpenK.AllK
import Wide.FinOn
import HandS.ForMost
import HandS.ForExc
import HandS.CallSlots
import HandS.Wide
import HandS.Deep
import HandS.TupAny
import HandS.NoneIn
import HandS.Flow
import HandS.IsInst
import HandS.More
import HandS.WordsDict
import KE.SortData
import KE.KDictSum
import KE.KDictCopyH
import HandS.Conv
import HandS.SortInts
import HandS.DictTup
import KE.KDictPairs
import KE.KDictKeyed
import HandS.Style
import HandS.Codes
import HandS.Ends
import HandS.Words
import HandS.WordsExc
import HandS.Defaults
import HandS.Head0
import HandS.Head1
import HandS.Head2
import HandS.HeadEnd
import HandS.HeadHook1
import HandS.HeadHook2
import HandS.HeadHook3
import HandS.HeadHook4
import HandS.RaiseMore
import HandS.Text
import HandS.ReplaceLit
import PyProof.StrReplace2
import KE.KRevSl
import HandS.TupMul
import HandS.ExcInit
import HandS.ExcIs
import HandS.ExcField
import HandS.ExcValue
import HandS.Small
import KE.KExcIs
import PySem.Challenge.RW_cutstree_k70_no_lines
set_option Elab.async false
set_option linter.all false
set_option maxRecDepth 100000
set_option maxHeartbeats 4000000
namespace L3
open PySem PySem.Spec L2
open PyProof.Rows hiding St
/-- a value as a tree: a tuple by its items (kt: one that may be a key), a list that nobody changes any more by its items (lst), what may change by its address -/
inductive U where
  | non | bl (b : Bool) | int (i : Int) | str (x : Str) | ty (n : String) | ref (a : Addr)
  | tup (xs : List U) | kt (xs : List U) | lst (xs : List U)
mutual
def U.dec : (a b : U) → Decidable (a = b)
  | .non, .non => Decidable.isTrue rfl
  | .bl a, .bl b => if h : a = b then Decidable.isTrue (by rw [h]) else Decidable.isFalse (by intro e; cases e; exact h rfl)
  | .int a, .int b => if h : a = b then Decidable.isTrue (by rw [h]) else Decidable.isFalse (by intro e; cases e; exact h rfl)
  | .str a, .str b => if h : a = b then Decidable.isTrue (by rw [h]) else Decidable.isFalse (by intro e; cases e; exact h rfl)
  | .ty a, .ty b => if h : a = b then Decidable.isTrue (by rw [h]) else Decidable.isFalse (by intro e; cases e; exact h rfl)
  | .ref a, .ref b => if h : a = b then Decidable.isTrue (by rw [h]) else Decidable.isFalse (by intro e; cases e; exact h rfl)
  | .tup a, .tup b => match U.decL a b with
    | Decidable.isTrue h => Decidable.isTrue (by rw [h])
    | Decidable.isFalse h => Decidable.isFalse (by intro e; cases e; exact h rfl)
  | .kt a, .kt b => match U.decL a b with
    | Decidable.isTrue h => Decidable.isTrue (by rw [h])
    | Decidable.isFalse h => Decidable.isFalse (by intro e; cases e; exact h rfl)
  | .lst a, .lst b => match U.decL a b with
    | Decidable.isTrue h => Decidable.isTrue (by rw [h])
    | Decidable.isFalse h => Decidable.isFalse (by intro e; cases e; exact h rfl)
  | .non, .bl _ | .non, .int _ | .non, .str _ | .non, .ty _ | .non, .ref _ | .non, .tup _ | .non, .kt _ | .non, .lst _ => Decidable.isFalse nofun
  | .bl _, .non | .bl _, .int _ | .bl _, .str _ | .bl _, .ty _ | .bl _, .ref _ | .bl _, .tup _ | .bl _, .kt _ | .bl _, .lst _ => Decidable.isFalse nofun
  | .int _, .non | .int _, .bl _ | .int _, .str _ | .int _, .ty _ | .int _, .ref _ | .int _, .tup _ | .int _, .kt _ | .int _, .lst _ => Decidable.isFalse nofun
  | .str _, .non | .str _, .bl _ | .str _, .int _ | .str _, .ty _ | .str _, .ref _ | .str _, .tup _ | .str _, .kt _ | .str _, .lst _ => Decidable.isFalse nofun
  | .ty _, .non | .ty _, .bl _ | .ty _, .int _ | .ty _, .str _ | .ty _, .ref _ | .ty _, .tup _ | .ty _, .kt _ | .ty _, .lst _ => Decidable.isFalse nofun
  | .ref _, .non | .ref _, .bl _ | .ref _, .int _ | .ref _, .str _ | .ref _, .ty _ | .ref _, .tup _ | .ref _, .kt _ | .ref _, .lst _ => Decidable.isFalse nofun
  | .tup _, .non | .tup _, .bl _ | .tup _, .int _ | .tup _, .str _ | .tup _, .ty _ | .tup _, .ref _ | .tup _, .kt _ | .tup _, .lst _ => Decidable.isFalse nofun
  | .kt _, .non | .kt _, .bl _ | .kt _, .int _ | .kt _, .str _ | .kt _, .ty _ | .kt _, .ref _ | .kt _, .tup _ | .kt _, .lst _ => Decidable.isFalse nofun
  | .lst _, .non | .lst _, .bl _ | .lst _, .int _ | .lst _, .str _ | .lst _, .ty _ | .lst _, .ref _ | .lst _, .tup _ | .lst _, .kt _ => Decidable.isFalse nofun
def U.decL : (a b : List U) → Decidable (a = b)
  | [], [] => Decidable.isTrue rfl
  | [], _ :: _ => Decidable.isFalse nofun
  | _ :: _, [] => Decidable.isFalse nofun
  | x :: xs, y :: ys => match U.dec x y, U.decL xs ys with
    | Decidable.isTrue h1, Decidable.isTrue h2 => Decidable.isTrue (by rw [h1, h2])
    | Decidable.isFalse h, _ => Decidable.isFalse (by intro e; cases e; exact h rfl)
    | _, Decidable.isFalse h => Decidable.isFalse (by intro e; cases e; exact h rfl)
end
instance : DecidableEq U := U.dec
abbrev Frag := PySem.W.Frag
/-- a list that stands still -/
def FzL (K : Frag) (H : Hp) (a : Addr) (xs : List V) : Prop :=
  (∃ o, H a = some (.frz o (.lst xs))) ∨
    ∃ (o : Obj) (its : Array Value) (n : Nat), K.lookup a = some o ∧ o.cls = .type "list" ∧ o.dict = none ∧ o.data = .seq its n ∧ its.size ≤ sizeLine ∧ Vals xs its.toList
theorem FzL.seq {K : Frag} {H : Hp} {a : Addr} {xs : List V} (h : FzL K H a xs) : SqL K H a xs := by
  rcases h with h | h
  · exact .inl (.inr h)
  · exact .inr h
mutual
def Rep (K : Frag) (H : Hp) : U → V → Prop
  | .non, v => v = .non
  | .bl b, v => v = .bl b
  | .int i, v => v = .int i
  | .str x, v => v = .str x
  | .ty n, v => v = .ty n
  | .ref a, v => v = .ref a
  | .tup xs, v => ∃ a vs, v = .ref a ∧ SqT K H a vs ∧ RepL K H xs vs
  | .kt xs, v => ∃ a vs, v = .ref a ∧ H a = some (.tup vs) ∧ RepL K H xs vs
  | .lst xs, v => ∃ a vs, v = .ref a ∧ FzL K H a vs ∧ RepL K H xs vs
def RepL (K : Frag) (H : Hp) : List U → List V → Prop
  | [], vs => vs = []
  | x :: xs, vs => ∃ v r, vs = v :: r ∧ Rep K H x v ∧ RepL K H xs r
end
/-- what is kept of the heap whatever happens: tuples, what stands still -/
structure TK (H H' : Hp) : Prop where
  tup : ∀ a xs, H a = some (.tup xs) → H' a = some (.tup xs)
  frz : ∀ a o u, H a = some (.frz o u) → H' a = some (.frz o u)
theorem TK.refl (H : Hp) : TK H H := ⟨fun _ _ h => h, fun _ _ _ h => h⟩
theorem TK.trans {H H1 H2 : Hp} (a : TK H H1) (b : TK H1 H2) : TK H H2 := ⟨fun c xs h => b.tup c xs (a.tup c xs h), fun c o u h => b.frz c o u (a.frz c o u h)⟩
theorem TK.new {H : Hp} {p : Addr} {o : HO} (h : H p = none) : TK H (upd H p o) :=
  ⟨fun a xs e => by rw [upd_ne (ne_of_none e h)]; exact e, fun a o u e => by rw [upd_ne (ne_of_none e h)]; exact e⟩
theorem TK.wr {H : Hp} {p : Addr} {o u : HO} (h : H p = some u) (h1 : ∀ xs, u ≠ .tup xs) (h2 : ∀ o x, u ≠ .frz o x) : TK H (upd H p o) :=
  ⟨fun a xs e => by rw [upd_ne (fun z => by rw [z, h] at e; cases e; exact h1 _ rfl)]; exact e, fun a o u e => by rw [upd_ne (fun z => by rw [z, h] at e; cases e; exact h2 _ _ rfl)]; exact e⟩
theorem TK.seqT {K : Frag} {H H' : Hp} {a : Addr} {xs : List V} (k : TK H H') (h : SqT K H a xs) : SqT K H' a xs := by
  rcases h with (h | ⟨o, h⟩) | h
  · exact .inl (.inl (k.tup _ _ h))
  · exact .inl (.inr ⟨o, k.frz _ _ _ h⟩)
  · exact .inr h
theorem TK.fzl {K : Frag} {H H' : Hp} {a : Addr} {xs : List V} (k : TK H H') (h : FzL K H a xs) : FzL K H' a xs := by
  rcases h with ⟨o, h⟩ | h
  · exact .inl ⟨o, k.frz _ _ _ h⟩
  · exact .inr h
mutual
theorem Rep.keep {K : Frag} {H H' : Hp} (k : TK H H') : ∀ {u : U} {v : V}, Rep K H u v → Rep K H' u v
  | .non, _, h => by simp only [Rep] at h ⊢; exact h
  | .bl _, _, h => by simp only [Rep] at h ⊢; exact h
  | .int _, _, h => by simp only [Rep] at h ⊢; exact h
  | .str _, _, h => by simp only [Rep] at h ⊢; exact h
  | .ty _, _, h => by simp only [Rep] at h ⊢; exact h
  | .ref _, _, h => by simp only [Rep] at h ⊢; exact h
  | .tup xs, _, h => by
    simp only [Rep] at h ⊢
    obtain ⟨a, vs, e, s, r⟩ := h
    exact ⟨a, vs, e, k.seqT s, RepL.keep k r⟩
  | .kt xs, _, h => by
    simp only [Rep] at h ⊢
    obtain ⟨a, vs, e, s, r⟩ := h
    exact ⟨a, vs, e, k.tup _ _ s, RepL.keep k r⟩
  | .lst xs, _, h => by
    simp only [Rep] at h ⊢
    obtain ⟨a, vs, e, s, r⟩ := h
    exact ⟨a, vs, e, k.fzl s, RepL.keep k r⟩
theorem RepL.keep {K : Frag} {H H' : Hp} (k : TK H H') : ∀ {us : List U} {vs : List V}, RepL K H us vs → RepL K H' us vs
  | [], _, h => by simp only [RepL] at h ⊢; exact h
  | x :: xs, _, h => by
    simp only [RepL] at h ⊢
    obtain ⟨v, r, e, h1, h2⟩ := h
    exact ⟨v, r, e, Rep.keep k h1, RepL.keep k h2⟩
end
section
variable {K : Frag} {H H' : Hp} {u : U} {us ws : List U} {v : V} {vs zs : List V}
theorem RepL.nil : RepL K H [] [] := by simp only [RepL]
theorem RepL.cons (h : Rep K H u v) (t : RepL K H us vs) : RepL K H (u :: us) (v :: vs) := by simp only [RepL]; exact ⟨v, vs, rfl, h, t⟩
theorem RepL.len : ∀ {us : List U} {vs : List V}, RepL K H us vs → us.length = vs.length
  | [], _, h => by simp only [RepL] at h; subst h; rfl
  | x :: xs, _, h => by
    simp only [RepL] at h
    obtain ⟨v, r, rfl, _, t⟩ := h
    rw [List.length_cons, List.length_cons, RepL.len t]
theorem RepL.get : ∀ {us : List U} {vs : List V} {i : Nat} {u : U}, RepL K H us vs → us[i]? = some u → ∃ v, vs[i]? = some v ∧ Rep K H u v
  | [], _, i, u, _, e => by simp at e
  | x :: xs, _, 0, u, h, e => by
    simp only [RepL] at h
    obtain ⟨v, r, rfl, h1, t⟩ := h
    cases e
    exact ⟨v, rfl, h1⟩
  | x :: xs, _, i + 1, u, h, e => by
    simp only [RepL] at h
    obtain ⟨v, r, rfl, h1, t⟩ := h
    simpa using RepL.get t (by simpa using e)
theorem RepL.app : ∀ {us : List U} {vs : List V}, RepL K H us vs → RepL K H ws zs → RepL K H (us ++ ws) (vs ++ zs)
  | [], _, h, t => by simp only [RepL] at h; subst h; exact t
  | x :: xs, _, h, t => by
    simp only [RepL] at h
    obtain ⟨v, r, rfl, h1, h2⟩ := h
    exact .cons h1 (RepL.app h2 t)
theorem RepL.take : ∀ {us : List U} {vs : List V} (n : Nat), RepL K H us vs → RepL K H (us.take n) (vs.take n)
  | _, _, 0, _ => by simp only [List.take_zero]; exact .nil
  | [], _, n + 1, h => by simp only [RepL] at h; subst h; simpa using RepL.nil
  | x :: xs, _, n + 1, h => by
    simp only [RepL] at h
    obtain ⟨v, r, rfl, h1, h2⟩ := h
    exact .cons h1 (RepL.take n h2)
theorem RepL.drop : ∀ {us : List U} {vs : List V} (n : Nat), RepL K H us vs → RepL K H (us.drop n) (vs.drop n)
  | _, _, 0, h => h
  | [], _, n + 1, h => by simp only [RepL] at h; subst h; simpa using RepL.nil
  | x :: xs, _, n + 1, h => by
    simp only [RepL] at h
    obtain ⟨v, r, rfl, h1, h2⟩ := h
    exact RepL.drop n h2
theorem RepL.set (hu : Rep K H u v) : ∀ {us : List U} {vs : List V} (n : Nat), RepL K H us vs → RepL K H (us.set n u) (vs.set n v)
  | [], _, n, h => by simp only [RepL] at h; subst h; simpa using RepL.nil
  | x :: xs, _, 0, h => by
    simp only [RepL] at h
    obtain ⟨v, r, rfl, h1, h2⟩ := h
    exact .cons hu h2
  | x :: xs, _, n + 1, h => by
    simp only [RepL] at h
    obtain ⟨v, r, rfl, h1, h2⟩ := h
    exact .cons h1 (RepL.set hu n h2)
theorem RepL.rev {us : List U} {vs : List V} (h : RepL K H us vs) : RepL K H us.reverse vs.reverse := by
  induction us generalizing vs with
  | nil => simp only [RepL] at h; subst h; exact .nil
  | cons x xs ih =>
    simp only [RepL] at h
    obtain ⟨v, r, rfl, h1, h2⟩ := h
    rw [List.reverse_cons, List.reverse_cons]
    exact (ih h2).app (.cons h1 .nil)
theorem RepL.erase : ∀ {us : List U} {vs : List V} (n : Nat), RepL K H us vs → RepL K H (us.eraseIdx n) (vs.eraseIdx n)
  | [], _, n, h => by simp only [RepL] at h; subst h; simpa using RepL.nil
  | x :: xs, _, 0, h => by
    simp only [RepL] at h
    obtain ⟨v, r, rfl, h1, h2⟩ := h
    exact h2
  | x :: xs, _, n + 1, h => by
    simp only [RepL] at h
    obtain ⟨v, r, rfl, h1, h2⟩ := h
    exact .cons h1 (RepL.erase n h2)
theorem RepL.dropLast {us : List U} {vs : List V} (h : RepL K H us vs) : RepL K H us.dropLast vs.dropLast := by
  rw [List.dropLast_eq_take, List.dropLast_eq_take, h.len]
  exact h.take _
theorem RepL.ofGet : ∀ {us : List U} {vs : List V}, us.length = vs.length → (∀ (i : Nat) u v, us[i]? = some u → vs[i]? = some v → Rep K H u v) → RepL K H us vs
  | [], [], _, _ => .nil
  | [], _ :: _, h, _ => by simp at h
  | _ :: _, [], h, _ => by simp at h
  | x :: xs, y :: ys, h, k => .cons (k 0 x y rfl rfl) (RepL.ofGet (by simpa using h) fun i u v e1 e2 => k (i + 1) u v (by simpa using e1) (by simpa using e2))
end

/-! ### what may change -/
inductive MO where
  | lst (xs : List U)
  /-- a dict; tk: its keys are tuples (else ints, texts); lk: it is being walked -/
  | dic (tk lk : Bool) (kvs : List (U × U))
  | ins (C : Addr) (fs : List (Str × U))
  /-- an exception that is held, not in flight: its class, its fields -/
  | exc (C : Addr) (fs : List (Str × U))
abbrev Mp := Addr → Option MO
def put (M : Mp) (a : Addr) (o : MO) : Mp := fun b => if b = a then some o else M b
def drp (M : Mp) (a : Addr) : Mp := fun b => if b = a then none else M b
theorem put_same {M : Mp} {a : Addr} {o : MO} : put M a o a = some o := by unfold put; rw [if_pos rfl]
theorem put_ne {M : Mp} {a b : Addr} {o : MO} (h : b ≠ a) : put M a o b = M b := by unfold put; rw [if_neg h]
theorem put_put {M : Mp} {a : Addr} {o u : MO} : put (put M a o) a u = put M a u := by
  funext b; unfold put; split <;> rfl
theorem drp_same {M : Mp} {a : Addr} : drp M a a = none := by unfold drp; rw [if_pos rfl]
theorem drp_ne {M : Mp} {a b : Addr} (h : b ≠ a) : drp M a b = M b := by unfold drp; rw [if_neg h]
theorem drp_put {M : Mp} {a : Addr} {o : MO} (h : M a = none) : drp (put M a o) a = M := by
  funext b
  by_cases e : b = a
  · rw [e, drp_same, h]
  · rw [drp_ne e, put_ne e]
theorem mne {M : Mp} {a b : Addr} {o : MO} (h : M a = some o) (h' : M b = none) : a ≠ b := by
  intro e; subst e; rw [h] at h'; cases h'

def keyU : Key → U
  | .inl i => .int i
  | .inr x => .str x
def keysU (ks : List Key) : U := .kt (ks.map keyU)
/-- pairs -/
def RepP (K : Frag) (H : Hp) {κ : Type} (ku : κ → U) (kvs : List (U × U)) (l : List (κ × V)) : Prop :=
  kvs.map (·.1) = l.map (fun p => ku p.1) ∧ RepL K H (kvs.map (·.2)) (l.map (·.2))
def RdL (lk : Bool) (H : Hp) (a : Addr) (u : HO) : Prop := if lk then ∃ o, H a = some (.frz o u) else H a = some u
/-- an exception's object, known -/
def xcT (a : Addr) (oe : Obj) : HO := .frz oe (.ext fun h => h.get? a = some oe)
def RX (K : Frag) (H : Hp) (a C : Addr) (fs : List (Str × U)) : Prop := ∃ (oe : Obj), H a = some (xcT a oe) ∧ oe.cls = .ref C ∧ (∃ vs, oe.data = .fields vs) ∧
  ((fs = [] ∧ oe.dict = none) ∨ ∃ dd od l, oe.dict = some dd ∧ H dd = some (.frz od (.xd l)) ∧ fs.map (·.1) = l.map (·.1) ∧ RepL K H (fs.map (·.2)) (l.map (·.2)))
theorem RX.keep {K : Frag} {H H' : Hp} {a C : Addr} {fs : List (Str × U)} (k : TK H H') (h : RX K H a C fs) : RX K H' a C fs := by
  obtain ⟨oe, h1, h2, h3, h4⟩ := h
  refine ⟨oe, k.frz _ _ _ h1, h2, h3, ?_⟩
  rcases h4 with h4 | ⟨dd, od, l, e1, e2, e3, r⟩
  · exact .inl h4
  · exact .inr ⟨dd, od, l, e1, k.frz _ _ _ e2, e3, r.keep k⟩
def RO (K : Frag) (H : Hp) (a : Addr) : MO → Prop
  | .exc C fs => RX K H a C fs
  | .lst xs => ∃ vs, H a = some (.lst vs) ∧ RepL K H xs vs
  | .dic false lk kvs => ∃ l, RdL lk H a (.dK l) ∧ RepP K H keyU kvs l
  | .dic true lk kvs => ∃ l, RdL lk H a (.dT l) ∧ RepP K H keysU kvs l
  | .ins C fs => ∃ dx l, H a = some (.ins C dx l) ∧ H dx = some (.own a) ∧ fs.map (·.1) = l.map (·.1) ∧ RepL K H (fs.map (·.2)) (l.map (·.2))
def RM (K : Frag) (H : Hp) (M : Mp) : Prop := ∀ a o, M a = some o → RO K H a o
theorem RO.there {K : Frag} {H : Hp} {a : Addr} {o : MO} (h : RO K H a o) : H a ≠ none := by
  intro e
  cases o with
  | lst xs => obtain ⟨vs, h, _⟩ := h; rw [e] at h; cases h
  | dic tk lk kvs =>
    cases tk
    all_goals
      obtain ⟨l, h, _⟩ := h
      unfold RdL at h
      cases lk
      · rw [if_neg Bool.false_ne_true, e] at h; cases h
      · rw [if_pos rfl] at h; obtain ⟨o, h⟩ := h; rw [e] at h; cases h
  | ins C fs => obtain ⟨dx, l, h, _⟩ := h; rw [e] at h; cases h
  | exc C fs => obtain ⟨oe, h, _⟩ := h; rw [e] at h; cases h
theorem RM.fresh {K : Frag} {H : Hp} {M : Mp} (h : RM K H M) {p : Addr} (e : H p = none) : M p = none := by
  cases q : M p with
  | none => rfl
  | some o => exact absurd e (h p o q).there
theorem RepP.keep {K : Frag} {H H' : Hp} {κ : Type} {ku : κ → U} {kvs : List (U × U)} {l : List (κ × V)} (k : TK H H') (h : RepP K H ku kvs l) : RepP K H' ku kvs l := ⟨h.1, h.2.keep k⟩
/-- what an object says stays, while its own address (and its own dict's) stays -/
theorem RO.keep {K : Frag} {H H' : Hp} {a : Addr} {o : MO} (k : TK H H') (h : RO K H a o) (e : ∀ u, H a = some u → H' a = some u) (e2 : ∀ b, H b = some (.own a) → H' b = some (.own a)) : RO K H' a o := by
  cases o with
  | lst xs => obtain ⟨vs, h, r⟩ := h; exact ⟨vs, e _ h, r.keep k⟩
  | dic tk lk kvs =>
    have q : ∀ u, RdL lk H a u → RdL lk H' a u := by
      intro u h
      unfold RdL at h ⊢
      cases lk
      · rw [if_neg Bool.false_ne_true] at h ⊢; exact e _ h
      · rw [if_pos rfl] at h ⊢; obtain ⟨o, h⟩ := h; exact ⟨o, e _ h⟩
    cases tk
    · obtain ⟨l, h, r⟩ := h
      exact ⟨l, q _ h, r.keep k⟩
    · obtain ⟨l, h, r⟩ := h
      exact ⟨l, q _ h, r.keep k⟩
  | ins C fs => obtain ⟨dx, l, h, hd, h2, r⟩ := h; exact ⟨dx, l, e _ h, e2 _ hd, h2, r.keep k⟩
  | exc C fs => exact RX.keep k h
/-- a step: what is kept -/
structure SK (H : Hp) (M : Mp) (H' : Hp) (M' : Mp) : Prop where
  tk : TK H H'
theorem SK.refl (H : Hp) (M : Mp) : SK H M H M := ⟨.refl H⟩
theorem SK.trans {H H1 H2 : Hp} {M M1 M2 : Mp} (a : SK H M H1 M1) (b : SK H1 M1 H2 M2) : SK H M H2 M2 := ⟨a.tk.trans b.tk⟩
end L3

set_option Elab.async false
set_option linter.all false
set_option maxRecDepth 100000
set_option maxHeartbeats 4000000
namespace L3
open PySem PySem.Spec L2
open PyProof.Rows hiding St
/-! ### slots -/
abbrev SL := List (Option U)
def getS : SL → Nat → Option U
  | [], _ => none
  | x :: _, 0 => x
  | _ :: r, n + 1 => getS r n
def setS : SL → Nat → Option U → SL
  | [], _, _ => []
  | _ :: r, 0, u => u :: r
  | x :: r, n + 1, u => x :: setS r n u
theorem getS_eq : ∀ (σ : SL) (i : Nat), getS σ i = (σ[i]?).join
  | [], i => by simp [getS]
  | x :: r, 0 => by simp [getS]
  | x :: r, n + 1 => by simp [getS, getS_eq r n]
theorem setS_eq : ∀ (σ : SL) (i : Nat) (u : Option U), setS σ i u = σ.set i u
  | [], i, u => by simp [setS]
  | x :: r, 0, u => by simp [setS]
  | x :: r, n + 1, u => by simp [setS, setS_eq r n]
structure RS (K : Frag) (H : Hp) (σ : St) (z : SL) : Prop where
  len : σ.length = z.length
  at_ : ∀ (i : Nat) (u : U), getS z i = some u → ∃ v, σ[i]? = some (some v) ∧ Rep K H u v
theorem RS.keep {K : Frag} {H H' : Hp} {σ : St} {z : SL} (k : TK H H') (h : RS K H σ z) : RS K H' σ z := ⟨h.len, fun i u e => by
  obtain ⟨v, e1, r⟩ := h.at_ i u e
  exact ⟨v, e1, r.keep k⟩⟩
theorem RS.set {K : Frag} {H : Hp} {σ : St} {z : SL} {i : Nat} {u : U} {v : V} (h : RS K H σ z) (r : Rep K H u v) : RS K H (σ.set i (some v)) (setS z i (some u)) := by
  refine ⟨by rw [setS_eq]; simp [h.len], fun j w e => ?_⟩
  rw [setS_eq, getS_eq] at e
  by_cases hj : j = i
  · subst hj
    by_cases hl : j < z.length
    · rw [List.getElem?_set_self hl] at e
      have e' : u = w := by simpa using e
      subst e'
      exact ⟨v, by rw [List.getElem?_set_self (by rw [h.len]; exact hl)], r⟩
    · rw [List.getElem?_eq_none (by rw [List.length_set]; omega)] at e
      simp at e
  · rw [List.getElem?_set_ne (Ne.symm hj), ← getS_eq] at e
    obtain ⟨x, e1, r1⟩ := h.at_ j w e
    exact ⟨x, by rw [List.getElem?_set_ne (Ne.symm hj)]; exact e1, r1⟩
theorem RS.clr {K : Frag} {H : Hp} {σ : St} {z : SL} {i : Nat} {o : Option V} (h : RS K H σ z) : RS K H (σ.set i o) (setS z i none) := by
  refine ⟨by rw [setS_eq]; simp [h.len], fun j w e => ?_⟩
  rw [setS_eq, getS_eq] at e
  by_cases hj : j = i
  · subst hj
    by_cases hl : j < z.length
    · rw [List.getElem?_set_self hl] at e
      simp at e
    · rw [List.getElem?_eq_none (by rw [List.length_set]; omega)] at e
      simp at e
  · rw [List.getElem?_set_ne (Ne.symm hj), ← getS_eq] at e
    obtain ⟨x, e1, r1⟩ := h.at_ j w e
    exact ⟨x, by rw [List.getElem?_set_ne (Ne.symm hj)]; exact e1, r1⟩
/-- the slots at a def's entry: n in all -/
def startU (n : Nat) (us : List U) : SL := us.map some ++ List.replicate (n - us.length) none
theorem RS.start {K : Frag} {H : Hp} {N : List Str} {vs : List V} {us : List U} (h : RepL K H us vs) : RS K H (L2.start N vs) (startU N.length us) := by
  have hl := h.len
  refine ⟨by simp [L2.start, startU, hl], fun i u e => ?_⟩
  rw [getS_eq] at e
  unfold startU at e
  by_cases hi : i < us.length
  · rw [List.getElem?_append_left (by simpa using hi), List.getElem?_map] at e
    cases q : us[i]? with
    | none => rw [q] at e; simp at e
    | some w =>
      rw [q] at e
      have e' : w = u := by simpa using e
      subst e'
      obtain ⟨v, e1, r⟩ := h.get q
      refine ⟨v, ?_, r⟩
      unfold L2.start
      rw [List.getElem?_append_left (by simpa [← hl] using hi), List.getElem?_map, e1]
      rfl
  · rw [List.getElem?_append_right (by simpa using hi), List.getElem?_replicate] at e
    split at e <;> simp at e

/-! ### readings over trees -/
abbrev QK := U → Mp → Prop
abbrev TE' := SL → Mp → QK → Prop
abbrev TT' := SL → Mp → (Bool → Mp → Prop) → Prop
abbrev TA' := SL → Mp → (List U → Mp → Prop) → Prop
structure Ends' where
  nx : SL → Mp → Prop
  rt : QK
  bk : SL → Mp → Prop := fun _ _ => False
  ct : SL → Mp → Prop := fun _ _ => False
abbrev TS' := Ends' → SL → Mp → Prop
/-- an exception: its class, its fields -/
abbrev XK' := Addr → List (Str × U) → Mp → Prop
abbrev WX' := Addr → List (Str × U) → SL → Mp → Prop
/-- what is wanted over trees gives what is wanted over the heap -/
def Post (K : Frag) (H : Hp) (M : Mp) (q : QK) (Q : VK) : Prop := ∀ u M', q u M' → ∀ v H', Rep K H' u v → RM K H' M' → SK H M H' M' → Q v H'
def PostB (K : Frag) (H : Hp) (M : Mp) (q : Bool → Mp → Prop) (Q : Bool → Hp → Prop) : Prop := ∀ b M', q b M' → ∀ H', RM K H' M' → SK H M H' M' → Q b H'
def PostA (K : Frag) (H : Hp) (M : Mp) (q : List U → Mp → Prop) (Q : List V → Hp → Prop) : Prop := ∀ us M', q us M' → ∀ vs H', RepL K H' us vs → RM K H' M' → SK H M H' M' → Q vs H'
def PostS (K : Frag) (H : Hp) (M : Mp) (q : SL → Mp → Prop) (Q : St → Hp → Prop) : Prop := ∀ z M', q z M' → ∀ σ H', RS K H' σ z → RM K H' M' → SK H M H' M' → Q σ H'
def lowE (K : Frag) (t : TE') : TE := fun σ H Q => ∃ z M q, RS K H σ z ∧ RM K H M ∧ t z M q ∧ Post K H M q Q
def lowT (K : Frag) (t : TT') : TT := fun σ H Q => ∃ z M q, RS K H σ z ∧ RM K H M ∧ t z M q ∧ PostB K H M q Q
def lowA (K : Frag) (t : TA') : TA := fun σ H Q => ∃ z M q, RS K H σ z ∧ RM K H M ∧ t z M q ∧ PostA K H M q Q
structure PostD (K : Frag) (H : Hp) (M : Mp) (d : Ends') (D : Ends) : Prop where
  nx : PostS K H M d.nx D.nx
  rt : Post K H M d.rt D.rt
  bk : PostS K H M d.bk D.bk
  ct : PostS K H M d.ct D.ct
def lowS (K : Frag) (t : TS') : TS := fun D σ H => ∃ z M d, RS K H σ z ∧ RM K H M ∧ t d z M ∧ PostD K H M d D
section
variable {K : Frag} {H H1 : Hp} {M M1 : Mp} {q : QK} {Q : VK}
theorem Post.step (p : Post K H M q Q) (s : SK H M H1 M1) : Post K H1 M1 q Q := fun u M' h v H' r m k => p u M' h v H' r m (s.trans k)
theorem PostB.step {q : Bool → Mp → Prop} {Q : Bool → Hp → Prop} (p : PostB K H M q Q) (s : SK H M H1 M1) : PostB K H1 M1 q Q := fun u M' h H' m k => p u M' h H' m (s.trans k)
theorem PostA.step {q : List U → Mp → Prop} {Q : List V → Hp → Prop} (p : PostA K H M q Q) (s : SK H M H1 M1) : PostA K H1 M1 q Q := fun u M' h v H' r m k => p u M' h v H' r m (s.trans k)
theorem PostS.step {q : SL → Mp → Prop} {Q : St → Hp → Prop} (p : PostS K H M q Q) (s : SK H M H1 M1) : PostS K H1 M1 q Q := fun u M' h v H' r m k => p u M' h v H' r m (s.trans k)
theorem PostD.step {d : Ends'} {D : Ends} (p : PostD K H M d D) (s : SK H M H1 M1) : PostD K H1 M1 d D := ⟨p.nx.step s, p.rt.step s, p.bk.step s, p.ct.step s⟩
end
/-! ### the judgements over trees -/
def QE (X : Cx) (e : Expr) (t : TE') : Prop := PE X e (lowE X.K t)
def QT (X : Cx) (e : Expr) (t : TT') : Prop := PT X e (lowT X.K t)
def QW (X : Cx) (e : Expr) (t : TT') : Prop := PW X e (lowT X.K t)
def QA (X : Cx) (es : List Expr) (t : TA') : Prop := PA X es (lowA X.K t)
def QS (X : Cx) (st : Stmt) (t : TS') : Prop := PS X st (lowS X.K t)
def QSs (X : Cx) (st : List Stmt) (t : TS') : Prop := PSs X st (lowS X.K t)
section
variable {X : Cx}
theorem imE {e : Expr} {t t' : TE} (h : PE X e t) (k : ∀ σ H Q, t' σ H Q → t σ H Q) : PE X e t' := ⟨fun pins s σ H Q I w => h.run pins s σ H Q I (k σ H Q w)⟩
theorem imT {e : Expr} {t t' : TT} (h : PT X e t) (k : ∀ σ H Q, t' σ H Q → t σ H Q) : PT X e t' := ⟨fun pins s σ H Q I w => h.run pins s σ H Q I (k σ H Q w)⟩
theorem imW {e : Expr} {t t' : TT} (h : PW X e t) (k : ∀ σ H Q, t' σ H Q → t σ H Q) : PW X e t' := ⟨fun wh pins s σ H Q I w => h.run wh pins s σ H Q I (k σ H Q w)⟩
theorem imA {es : List Expr} {t t' : TA} (h : PA X es t) (k : ∀ σ H Q, t' σ H Q → t σ H Q) : PA X es t' := ⟨fun p pins s σ H Q I w => h.run p pins s σ H Q I (k σ H Q w)⟩
theorem imS {st : Stmt} {t t' : TS} (h : PS X st t) (k : ∀ D σ H, t' D σ H → t D σ H) : PS X st t' := ⟨fun pins s σ H D I w => h.run pins s σ H D I (k D σ H w)⟩
theorem imSs {st : List Stmt} {t t' : TS} (h : PSs X st t) (k : ∀ D σ H, t' D σ H → t D σ H) : PSs X st t' := ⟨fun pins s σ H D I w => h.run pins s σ H D I (k D σ H w)⟩
end
/-! ### names, constants -/
def eV (i : Nat) : TE' := fun z M q => match getS z i with
  | some u => q u M
  | none => False
def eC (u : U) : TE' := fun _ M q => q u M
section
variable {X : Cx} {pos : Pos}
theorem qe_var {i : Nat} {x : Str} (h : PE X (.Name x pos) (tVar i)) : QE X (.Name x pos) (eV i) := imE h fun σ H Q ⟨z, M, q, hs, hm, hq, P⟩ => by
  unfold eV at hq
  cases e : getS z i with
  | none => rw [e] at hq; exact hq.elim
  | some u =>
    rw [e] at hq
    obtain ⟨v, e1, r⟩ := hs.at_ i u e
    exact ⟨v, e1, P u M hq v H r hm (.refl H M)⟩
theorem qv (i : Nat) {x : Str} (hN : X.N[i]? = some x := by rfl) (hv : Vis X.env.scope x := by first | exact Or.inl rfl | exact Or.inr (Or.inl rfl) | exact Or.inr (Or.inr rfl)) (hd : (x == ("__debug__" : Str)) = false := by decide)
    (hcd : (x == ("__classdict__" : Str)) = false := by decide) : QE X (.Name x pos) (eV i) := qe_var (pv i hN hv hd hcd)
theorem qe_cst {e : Expr} {u : U} {v : V} (h : PE X e (tC v)) (r : ∀ H, Rep X.K H u v) : QE X e (eC u) := imE h fun σ H Q ⟨z, M, q, hs, hm, hq, P⟩ => P u M hq v H (r H) hm (.refl H M)
theorem qe_int {i j} : QE X (.Constant (.int i) j pos) (eC (.int i)) := qe_cst pe_int fun H => by simp only [Rep]
theorem qe_bl {b j} : QE X (.Constant (.bool b) j pos) (eC (.bl b)) := qe_cst pe_bl fun H => by simp only [Rep]
theorem qe_non {j} : QE X (.Constant .none j pos) (eC .non) := qe_cst pe_non fun H => by simp only [Rep]
theorem qe_str {x j} : QE X (.Constant (.str x) j pos) (eC (.str x)) := qe_cst pe_str fun H => by simp only [Rep]
end
/-! ### two places -/
abbrev R2' := U → U → Mp → QK → Prop
def lowR (K : Frag) (r : R2') : R2 := fun x y H Q => ∃ u w M q, Rep K H u x ∧ Rep K H w y ∧ RM K H M ∧ r u w M q ∧ Post K H M q Q
def eBin (r : R2') (a b : TE') : TE' := fun z M q => a z M fun x M1 => b z M1 fun y M2 => r x y M2 q
theorem low_bin {K : Frag} {r : R2'} {a b : TE'} {σ : St} {H : Hp} {Q : VK} (h : lowE K (eBin r a b) σ H Q) : tOp (lowR K r) (lowE K a) (lowE K b) σ H Q := by
  obtain ⟨z, M, q, hs, hm, hq, P⟩ := h
  refine ⟨z, M, _, hs, hm, hq, fun x M1 h1 vx H1 rx m1 k1 => ?_⟩
  refine ⟨z, M1, _, hs.keep k1.tk, m1, h1, fun y M2 h2 vy H2 ry m2 k2 => ?_⟩
  exact ⟨x, y, M2, q, rx.keep k2.tk, ry, m2, h2, P.step (k1.trans k2)⟩
section
variable {X : Cx} {pos : Pos} {a b : Expr} {ta tb : TE'} {r : R2'}
theorem qe_op {op : Operator} (ho : OpR X (binaryOp op) (lowR X.K r)) (ha : QE X a ta) (hb : QE X b tb) : QE X (.BinOp a op b pos) (eBin r ta tb) := imE (pe_op ho ha hb) fun _ _ _ h => low_bin h
theorem qe_cmp {op : CmpOp} (ho : OpR X (compareOp op) (lowR X.K r)) (ha : QE X a ta) (hb : QE X b tb) (hm : behindInMarks op b = false) : QE X (.Compare a [op] [b] pos) (eBin r ta tb) := imE (pe_cmpR ho ha hb hm) fun _ _ _ h => low_bin h
/-- a value's truth, where it's a bool -/
def asB (q : Bool → Mp → Prop) : QK := fun u M => match u with
  | .bl k => q k M
  | _ => False
def tB' (t : TE') : TT' := fun z M q => t z M (asB q)
theorem low_test {K : Frag} {t : TE'} {σ : St} {H : Hp} {Q : Bool → Hp → Prop} (h : lowT K (tB' t) σ H Q) : tTest (lowE K t) σ H Q := by
  obtain ⟨z, M, q, hs, hm, hq, P⟩ := h
  refine ⟨z, M, _, hs, hm, hq, fun u M' h v H' r m k => ?_⟩
  cases u with
  | bl c =>
    simp only [Rep] at r
    exact ⟨c, r, P c M' h H' m k⟩
  | _ => exact (show False from h).elim
theorem tTest_mono {t t' : TE} {σ : St} {H : Hp} {Q : Bool → Hp → Prop} (k : ∀ Q, t σ H Q → t' σ H Q) (h : tTest t σ H Q) : tTest t' σ H Q := k _ h
theorem qt_cmp {op : CmpOp} (ho : OpR X (compareOp op) (lowR X.K r)) (ha : QE X a ta) (hb : QE X b tb) (hm : behindInMarks op b = false) : QT X (.Compare a [op] [b] pos) (tB' (eBin r ta tb)) :=
  imT (pt_cmpR ho ha hb hm) fun σ H Q h => tTest_mono (fun _ h => low_bin h) (low_test h)
end
end L3

set_option Elab.async false
set_option linter.all false
set_option maxRecDepth 100000
set_option maxHeartbeats 4000000
namespace L3
open PySem PySem.Spec L2
open PyProof.Rows hiding St
/-! ### what a tree says of its value -/
section
variable {K : Frag} {H : Hp} {M : Mp} {u w : U} {v : V} {us xs : List U}
theorem rint {i : Int} (h : Rep K H (.int i) v) : v = .int i := by simpa only [Rep] using h
theorem rbl {b : Bool} (h : Rep K H (.bl b) v) : v = .bl b := by simpa only [Rep] using h
theorem rstr {x : Str} (h : Rep K H (.str x) v) : v = .str x := by simpa only [Rep] using h
theorem rnon (h : Rep K H .non v) : v = .non := by simpa only [Rep] using h
theorem rref {a : Addr} (h : Rep K H (.ref a) v) : v = .ref a := by simpa only [Rep] using h
theorem rty {n : String} (h : Rep K H (.ty n) v) : v = .ty n := by simpa only [Rep] using h
theorem Rep.i {i : Int} : Rep K H (.int i) (.int i) := by simp only [Rep]
theorem Rep.b {b : Bool} : Rep K H (.bl b) (.bl b) := by simp only [Rep]
theorem Rep.s {x : Str} : Rep K H (.str x) (.str x) := by simp only [Rep]
theorem Rep.n : Rep K H .non .non := by simp only [Rep]
theorem Rep.r {a : Addr} : Rep K H (.ref a) (.ref a) := by simp only [Rep]
/-- a list's items, a tuple's -/
def seqL (M : Mp) : U → Option (List U)
  | .lst xs => some xs
  | .ref a => match M a with
    | some (.lst xs) => some xs
    | _ => none
  | _ => none
def seqT : U → Option (List U)
  | .tup xs => some xs
  | .kt xs => some xs
  | _ => none
theorem seqL_of (m : RM K H M) (h : seqL M u = some xs) (r : Rep K H u v) : ∃ a vs, v = .ref a ∧ SqL K H a vs ∧ RepL K H xs vs := by
  cases u with
  | lst ys =>
    cases h
    simp only [Rep] at r
    obtain ⟨a, vs, e, f, r⟩ := r
    exact ⟨a, vs, e, f.seq, r⟩
  | ref a =>
    have h' : (match M a with | some (.lst xs) => some xs | _ => none) = some xs := h
    cases e : M a with
    | none => rw [e] at h'; cases h'
    | some o =>
      rw [e] at h'
      cases o with
      | lst ys =>
        cases h'
        obtain ⟨vs, e1, r1⟩ := m a _ e
        exact ⟨a, vs, rref r, .of e1, r1⟩
      | _ => cases h'
  | _ => cases h
theorem seqT_of (h : seqT u = some xs) (r : Rep K H u v) : ∃ a vs, v = .ref a ∧ SqT K H a vs ∧ RepL K H xs vs := by
  cases u with
  | tup ys =>
    cases h
    simp only [Rep] at r
    exact r
  | kt ys =>
    cases h
    simp only [Rep] at r
    obtain ⟨a, vs, e, f, r⟩ := r
    exact ⟨a, vs, e, .of f, r⟩
  | _ => cases h
end
/-! ### new things -/
/-- a new list: one that stands still, or one that may change -/
def newL (xs : List U) (M : Mp) (q : QK) : Prop := q (.lst xs) M ∨ ∀ p, M p = none → q (.ref p) (put M p (.lst xs))
def newT (xs : List U) (M : Mp) (q : QK) : Prop := q (.tup xs) M ∨ q (.kt xs) M
/-- lists may be locked for ever where an expression, a def ends -/
inductive fz (Q : VK) (v : V) : Hp → Prop where
  | here {H : Hp} : Q v H → fz Q v H
  | lock {H : Hp} {a : Addr} {xs : List V} : H a = some (.lst xs) → (∀ o, fz Q v (upd H a (.frz o (.lst xs)))) → fz Q v H
theorem fz.run {X : Cx} {pins : List (Addr × Obj)} {σ : L2.St} {Q : VK} {v : V} {H : Hp} {s : Shared} (h : fz Q v H) (I : Inv X pins σ H s) : ∃ H', Inv X pins σ H' s ∧ Q v H' := by
  induction h with
  | here q => exact ⟨_, I, q⟩
  | lock e _ ih =>
    obtain ⟨od, I'⟩ := I.lock e trivial
    exact ih od I'
theorem EP.fz {X : Cx} {pins : List (Addr × Obj)} {σ : L2.St} {Q : VK} {u : Value} {s : Shared} (h : EP X pins σ (fz Q) u s) : EP X pins σ Q u s := by
  obtain ⟨v, H, I, r, q⟩ := h
  obtain ⟨H', I', q'⟩ := q.run I
  exact ⟨v, H', I', r, q'⟩
theorem OpR.fz {X : Cx} {f : Value → Value → Sem Value} {r : R2} (h : OpR X f r) : OpR X f (fun x y H Q => r x y H (fz Q)) :=
  fun pins s σ H x y v u Q I rx ry q => thn (h pins s σ H x y v u (L3.fz Q) I rx ry q) fun _ _ e => EP.fz e
theorem CallR.fz {X : Cx} {f : Value} {r : List V → Hp → VK → Prop} (h : CallR X f r) : CallR X f (fun xs H Q => r xs H (fz Q)) :=
  fun pins s σ H xs us Q I rx q => thn (h pins s σ H xs us (L3.fz Q) I rx q) fun _ _ e => EP.fz e
theorem PE.fz {X : Cx} {e : Expr} {t : TE} (h : PE X e t) : PE X e (fun σ H Q => t σ H (fz Q)) :=
  ⟨fun pins s σ H Q I q => thn (h.run pins s σ H (L3.fz Q) I q) fun _ _ e => EP.fz e⟩
section
variable {K : Frag} {H : Hp} {M : Mp} {q : QK} {Q : VK} {xs : List U} {vs : List V}
theorem RM.new {o : HO} {mo : MO} {p : Addr} (m : RM K H M) (hp : H p = none) (h : RO K (upd H p o) p mo) : RM K (upd H p o) (put M p mo) := fun a x e => by
  by_cases z : a = p
  · rw [z, put_same] at e; cases e
    rw [z]; exact h
  · rw [put_ne z] at e
    refine (m a x e).keep (.new hp) (fun u h => by rw [upd_ne z]; exact h) fun b h => by rw [upd_ne (ne_of_none h hp)]; exact h
theorem RM.hid {o : HO} {p : Addr} (m : RM K H M) (hp : H p = none) : RM K (upd H p o) M := fun a x e => by
  refine (m a x e).keep (.new hp) (fun u h => by rw [upd_ne (ne_of_none h hp)]; exact h) fun b h => by rw [upd_ne (ne_of_none h hp)]; exact h
theorem upd_some {H : Hp} {p a : Addr} {o : HO} (h : H a ≠ none) : upd H p o a ≠ none := by
  by_cases z : a = p
  · rw [z, upd_same]; exact fun e => nomatch e
  · rw [upd_ne z]; exact h
theorem SK.new {o : HO} {mo : MO} {p : Addr} (hp : H p = none) : SK H M (upd H p o) (put M p mo) := ⟨.new hp⟩
theorem SK.hide {o : HO} {p : Addr} (hp : H p = none) : SK H M (upd H p o) M := ⟨.new hp⟩
theorem newL_ok (m : RM K H M) (r : RepL K H xs vs) (h : newL xs M q) (P : Post K H M q Q) {p : Addr} (hp : H p = none) : fz Q (.ref p) (upd H p (.lst vs)) := by
  rcases h with h | h
  · refine .lock (a := p) (xs := vs) upd_same fun o => .here ?_
    rw [upd_upd]
    refine P _ _ h _ _ ?_ (m.hid hp) (.hide hp)
    simp only [Rep]
    exact ⟨p, vs, rfl, .inl ⟨o, upd_same⟩, r.keep (.new hp)⟩
  · refine .here (P _ _ (h p (m.fresh hp)) _ _ .r (m.new hp ⟨vs, upd_same, r.keep (.new hp)⟩) (.new hp))
theorem newT_ok (m : RM K H M) (r : RepL K H xs vs) (h : newT xs M q) (P : Post K H M q Q) {p : Addr} (hp : H p = none) : Q (.ref p) (upd H p (.tup vs)) := by
  rcases h with h | h
  · refine P _ _ h _ _ ?_ (m.hid hp) (.hide hp)
    simp only [Rep]
    exact ⟨p, vs, rfl, .of upd_same, r.keep (.new hp)⟩
  · refine P _ _ h _ _ ?_ (m.hid hp) (.hide hp)
    simp only [Rep]
    exact ⟨p, vs, rfl, upd_same, r.keep (.new hp)⟩
end
/-! ### operators -/
section
variable {X : Cx}
theorem opU {f : Value → Value → Sem Value} {r : R2} {r' : R2'} (h : OpR X f r) (k : ∀ u w x y H M q Q, Rep X.K H u x → Rep X.K H w y → RM X.K H M → r' u w M q → Post X.K H M q Q → r x y H Q) : OpR X f (lowR X.K r') :=
  fun pins s σ H x y v u Q I rx ry ⟨a, b, M, q, ra, rb, m, hq, P⟩ => h pins s σ H x y v u Q I rx ry (k a b x y H M q Q ra rb m hq P)
/-- + of two lists, whatever they are -/
theorem op_catS : OpR X (binaryOp .Add) (fun x y H Q => ∃ l b xs zs, x = .ref l ∧ y = .ref b ∧ SqL X.K H l xs ∧ SqL X.K H b zs ∧ xs.length + zs.length ≤ sizeLine ∧ ∀ p, H p = none → Q (.ref p) (upd H p (.lst (xs ++ zs)))) := by
  intro pins s σ H x y v u Q I rx ry h
  obtain ⟨l, b, xs, zs, rfl, rfl, hH, hB, hz, q⟩ := h
  cases rx
  cases ry
  obtain ⟨its, r, ⟨⟨cls, dd, data, sl⟩, n, ho, hc, hd, hdat⟩, _⟩ := I.list hH
  obtain ⟨its2, r2, ⟨⟨cls2, dd2, data2, sl2⟩, n2, ho2, hc2, hd2, hdat2⟩, _⟩ := I.list hB
  simp only at hc hd hdat hc2 hd2 hdat2
  subst hc hd hdat hc2 hd2 hdat2
  have hl := r.length
  have hl2 := r2.length
  refine concat_meets ⟨_, ho, rfl⟩ ⟨_, ho2, rfl⟩ noFill_list_add seq_list_add PySem.F.slot_list_add PySem.F.entry_list_add (PySem.F.args_list_add_2 _ _) (PyProof.Rows.list_addW l b its.toArray its2.toArray n n2 none none sl sl2 (by rw [List.size_toArray, List.size_toArray]; omega)) ⟨ho, ho2, ?_⟩
  have ea : its.toArray ++ its2.toArray = (its ++ its2).toArray := by simp
  rw [ea]
  exact ⟨.ref _, _, I.lnew (t' := s.toks) (r.append r2) (by rw [List.length_append]; omega), rfl, q _ I.fresh⟩
end
end L3

set_option Elab.async false
set_option linter.all false
set_option maxRecDepth 100000
set_option maxHeartbeats 4000000
namespace L3
open PySem PySem.Spec L2
open PyProof.Rows hiding St
/-! ### + - * // % ** << >> & ^ -/
def catT (xs ys : List U) (M : Mp) (q : QK) : Prop := q (.tup (xs ++ ys)) M ∨ (xs ≠ [] ∧ ys ≠ [] ∧ q (.kt (xs ++ ys)) M)
def rAdd : R2' := fun x y M q => match x with
  | .int i => match y with
    | .int j => q (.int (i + j)) M
    | _ => False
  | .str a => match y with
    | .str b => a.length + b.length ≤ sizeLine ∧ q (.str (a ++ b)) M
    | _ => False
  | x => match seqT x with
    | some xs => ∃ ys, seqT y = some ys ∧ xs.length + ys.length ≤ sizeLine ∧ catT xs ys M q
    | none => ∃ xs ys, seqL M x = some xs ∧ seqL M y = some ys ∧ xs.length + ys.length ≤ sizeLine ∧ newL (xs ++ ys) M q
def rInt (C : Int → Int → Prop) (g : Int → Int → Int) : R2' := fun x y M q => match x with
  | .int i => match y with
    | .int j => C i j ∧ q (.int (g i j)) M
    | _ => False
  | _ => False
def rInt0 (g : Int → Int → U) : R2' := fun x y M q => match x with
  | .int i => match y with
    | .int j => q (g i j) M
    | _ => False
  | _ => False
def rMul : R2' := fun x y M q => match x with
  | .int i => match y with
    | .int j => IntMulOk i j ∧ q (.int (i * j)) M
    | _ => False
  | x => match y with
    | .int k => ∃ xs, seqL M x = some xs ∧ -(2 ^ 63) ≤ k ∧ k < 2 ^ 63 ∧ xs.length * k.toNat ≤ sizeLine ∧ newL (List.replicate k.toNat xs).flatten M q
    | _ => False
abbrev rSub : R2' := rInt0 fun i j => .int (i - j)
abbrev rDiv : R2' := rInt CDivW fun i j => i / j
abbrev rMod : R2' := rInt (fun _ j => 0 < j) fun i j => i % j
abbrev rPow : R2' := rInt CPow fun i j => i ^ j.toNat
abbrev rShl : R2' := rInt CPow fun i j => i * 2 ^ j.toNat
abbrev rShr : R2' := rInt (fun _ j => 0 ≤ j) fun i j => i / 2 ^ j.toNat
abbrev rAnd : R2' := rInt0 fun i j => .int (Builtin.bitAnd i j)
abbrev rXor : R2' := rInt0 fun i j => .int (Builtin.bitXor i j)
section
variable {X : Cx}
theorem Post.val {K : Frag} {H : Hp} {M : Mp} {q : QK} {Q : VK} {u : U} {v : V} (P : Post K H M q Q) (hq : q u M) (m : RM K H M) (r : Rep K H u v) : Q v H := P u M hq v H r m (.refl H M)
theorem opI0 {f : Value → Value → Sem Value} {g : Int → Int → V} {g' : Int → Int → U} (h : OpR X f (rI0 g)) (hg : ∀ H i j, Rep X.K H (g' i j) (g i j)) : OpR X f (lowR X.K (rInt0 g')) :=
  opU h fun u w x y H M q Q ru rw' m hq P => by
    cases u with
    | int i => cases w with
      | int j => exact ⟨i, j, rint ru, rint rw', P.val hq m (hg H i j)⟩
      | _ => exact hq.elim
    | _ => exact hq.elim
theorem opI {f : Value → Value → Sem Value} {C : Int → Int → Prop} {g : Int → Int → Int} (h : OpR X f (rI C fun i j => .int (g i j))) : OpR X f (lowR X.K (rInt C g)) :=
  opU h fun u w x y H M q Q ru rw' m hq P => by
    cases u with
    | int i => cases w with
      | int j => exact ⟨i, j, rint ru, rint rw', hq.1, P.val hq.2 m .i⟩
      | _ => exact hq.elim
    | _ => exact hq.elim
theorem o_sub : OpR X (binaryOp .Sub) (lowR X.K rSub) := opI0 op_sub fun _ _ _ => .i
theorem o_div : OpR X (binaryOp .FloorDiv) (lowR X.K rDiv) := opI op_fdivW
theorem o_mod : OpR X (binaryOp .Mod) (lowR X.K rMod) := opI op_mod
theorem o_pow : OpR X (binaryOp .Pow) (lowR X.K rPow) := opI op_pow
theorem o_shl : OpR X (binaryOp .LShift) (lowR X.K rShl) := opI op_shl
theorem o_shr : OpR X (binaryOp .RShift) (lowR X.K rShr) := opI op_shr
theorem o_and : OpR X (binaryOp .BitAnd) (lowR X.K rAnd) := opI0 op_and fun _ _ _ => .i
theorem o_xor : OpR X (binaryOp .BitXor) (lowR X.K rXor) := opI0 op_xor fun _ _ _ => .i
theorem low_catT {K : Frag} {H : Hp} {M : Mp} {q : QK} {Q : VK} {x y : V} {u w : U} {xs ys : List U} (hu : seqT u = some xs) (hw : seqT w = some ys) (ru : Rep K H u x) (rw' : Rep K H w y) (m : RM K H M) (hz : xs.length + ys.length ≤ sizeLine) (h : catT xs ys M q) (P : Post K H M q Q) :
    rCatA K x y H Q := by
  obtain ⟨a, vs, rfl, s1, r1⟩ := seqT_of hu ru
  obtain ⟨b, ws, rfl, s2, r2⟩ := seqT_of hw rw'
  have l1 := r1.len
  have l2 := r2.len
  refine ⟨a, b, vs, ws, rfl, rfl, s1, s2, by omega, fun e => ?_, fun n e => ?_, fun n1 n2 p hp => ?_⟩
  · have ex : xs = [] := List.length_eq_zero_iff.mp (by rw [l1, e]; rfl)
    subst ex
    rcases h with h | ⟨h, _⟩
    · exact P.val h m (by simp only [Rep]; exact ⟨b, ws, rfl, s2, by simpa using r2⟩)
    · exact absurd rfl h
  · have ey : ys = [] := List.length_eq_zero_iff.mp (by rw [l2, e]; rfl)
    subst ey
    rcases h with h | ⟨_, h, _⟩
    · exact P.val h m (by simp only [Rep]; exact ⟨a, vs, rfl, s1, by simpa using r1⟩)
    · exact absurd rfl h
  · rcases h with h | ⟨_, _, h⟩
    · exact newT_ok m (r1.app r2) (.inl h) P hp
    · exact newT_ok m (r1.app r2) (.inr h) P hp
theorem o_add : OpR X (binaryOp .Add) (lowR X.K rAdd) :=
  opU (op_add.or (op_add_str.or (op_catA.or (OpR.fz op_catS)))) fun u w x y H M q Q ru rw' m hq P => by
    have gen : (∃ xs ys, seqL M u = some xs ∧ seqL M w = some ys ∧ xs.length + ys.length ≤ sizeLine ∧ newL (xs ++ ys) M q) →
        (∃ l b xs zs, x = .ref l ∧ y = .ref b ∧ SqL X.K H l xs ∧ SqL X.K H b zs ∧ xs.length + zs.length ≤ sizeLine ∧ ∀ p, H p = none → fz Q (.ref p) (upd H p (.lst (xs ++ zs)))) := fun ⟨xs, ys, e1, e2, hz, h⟩ => by
      obtain ⟨a, vs, rfl, s1, r1⟩ := seqL_of m e1 ru
      obtain ⟨b, ws, rfl, s2, r2⟩ := seqL_of m e2 rw'
      have l1 := r1.len
      have l2 := r2.len
      exact ⟨a, b, vs, ws, rfl, rfl, s1, s2, by omega, fun p hp => newL_ok m (r1.app r2) h P hp⟩
    cases u with
    | int i => cases w with
      | int j => exact .inl ⟨i, j, rint ru, rint rw', P.val hq m .i⟩
      | _ => exact hq.elim
    | str a => cases w with
      | str b => exact .inr (.inl ⟨a, b, rstr ru, rstr rw', hq.1, P.val hq.2 m .s⟩)
      | _ => exact hq.elim
    | tup xs =>
      obtain ⟨ys, e, hz, h⟩ := hq
      exact .inr (.inr (.inl (low_catT rfl e ru rw' m hz h P)))
    | kt xs =>
      obtain ⟨ys, e, hz, h⟩ := hq
      exact .inr (.inr (.inl (low_catT rfl e ru rw' m hz h P)))
    | _ => exact .inr (.inr (.inr (gen hq)))
theorem op_mulOk : OpR X (binaryOp .Mult) (rI IntMulOk fun i j => .int (i * j)) := L2.opI fun _ _ _ _ _ _ _ hc q => mul_int q hc
end
end L3

set_option Elab.async false
set_option linter.all false
set_option maxRecDepth 100000
set_option maxHeartbeats 4000000
namespace L3
open PySem PySem.Spec L2
open PyProof.Rows hiding St
/-! ### defs, where no repr is under way around (so repr may be asked within) -/
structure FnG (P : Program) (w : World) (K : Frag) (mg : Str → Option Value) (base : Heap) (k : Nat) (f : Addr) (fd : FuncData) (ps : List Str) (sp : Sp) : Prop where
  len : ∀ vs H Q E, sp vs H Q E → vs.length = ps.length
  run : ∀ (A : Around) (outer : List Env) (s : Shared) (H : Hp) (args : Args) (us : List Value) (vs : List V) (Q : VK) (E : XK), Room k A → A.guards = some [] → Env0 P w K mg base A outer s H →
    BindsTo s fd args (ps.zip us) → Vals vs us → sp vs H Q E → codeAny (model P w) A (.call (.ref f) args) (CR (L2.CX P w) outer P w H s Q E) s
section
variable {P : Program} {w : World} {K : Frag} {mg : Str → Option Value} {base : Heap} {k j : Nat} {f : Addr} {fd : FuncData} {ps : List Str} {sp sp' : Sp}
theorem FnG.mono (F : FnG P w K mg base j f fd ps sp) (h : j ≤ k) : FnG P w K mg base k f fd ps sp :=
  { len := F.len, run := fun A outer s H args us vs Q E hr => F.run A outer s H args us vs Q E (hr.mono h) }
/-- a weaker promise -/
theorem FnG.imp (F : FnG P w K mg base k f fd ps sp) (h : ∀ vs H Q E, sp' vs H Q E → sp vs H Q E) : FnG P w K mg base k f fd ps sp' :=
  { len := fun vs H Q E q => F.len vs H Q E (h _ _ _ _ q), run := fun A outer s H args us vs Q E hr hg he hb hv hs => F.run A outer s H args us vs Q E hr hg he hb hv (h _ _ _ _ hs) }
theorem fnG_of {x qual : Str} {st : Stmt} {N : List Str} (F : Fun K x qual st f fd) (S : FnScope N ps (defScope st)) (len : ∀ vs H Q E, sp vs H Q E → vs.length = ps.length)
    (hbody : ∀ (cdv : Value) (A : Around) (outer : List Env) (s : Shared) (H : Hp) (vs : List V) (Q : VK) (E : XK), Room k (A.deeper (envOfC qual (defScope st) s.heap.objs.size f cdv)) → A.guards = some [] → sp vs H Q E →
      ∃ t, PSs (cxOf (L2.CX P w) P w K mg base N qual (defScope st) f cdv A outer s H E) (defBody st) t ∧ t { nx := fun _ H' => fz Q .non H', rt := fz Q } (L2.start N vs) H) : FnG P w K mg base (k + 1) f fd ps sp := by
  obtain ⟨oc, od, kV, doc, pm, an, cdv, ct, osl, rfl, lk, hcd⟩ := F.ex
  refine ⟨len, fun A outer s H args us vs Q E hr hg e0 hb r hsp => ?_⟩
  have hlen := len vs H Q E hsp
  have inS : K.In s.heap := e0.mod.kin.keeps fun b o e => (e0.bs b o e).1
  have nolim : s.heap.NoLimit := e0.mod.nolimit.keeps fun b o e => (e0.bs b o e).1
  have params : ∀ y ∈ ps.zip us, (defScope st).names.lookup y.1 = some .local ∨ ((defScope st).names.lookup y.1 = some .cell ∧ ((cellsFrom (s.heap.objs.size + 1) (defScope st).names []).lookup y.1).isSome = true) := by
    intro y hy
    rcases S.par y.1 (List.of_mem_zip hy).1 with q | q
    · exact Or.inl q
    · exact Or.inr ⟨q, PySem.W.cellsFrom_some _ _ _ (Or.inl q)⟩
  refine codeAny_call_function hr.depth (inS _ _ lk) rfl S.co S.gen rfl (PySem.W.codeRec_of inS hcd) (hb _ _ _ _ ?_)
  refine wpAny_newFunctionEnv_cells S.kind params ?_
  intro env he s1 x
  subst he
  refine ⟨nolim.keeps x.toInCall.keep, codeAny_func ?_⟩
  obtain ⟨t, ht, hq⟩ := hbody cdv A outer s H vs Q E (hr.deeper _) hg hsp
  have I := inv_start (CX := L2.CX P w) (E := E) (mg := mg) (base := base) (f := f) (cd := cdv) (outer := outer) S hr.hd e0 hlen r x
  refine wpAny_mono (ht.run [] s1 _ H _ I hq) ?_ fun e s' hs => hs
  intro fl s' hs
  cases fl with
  | ret u =>
    obtain ⟨v, σ', H1, J1, rv, q1⟩ := hs
    obtain ⟨H', J, q⟩ := q1.run J1
    exact ⟨v, H', J.os, J.bare, J.base, J.hok, rv, q⟩
  | next =>
    obtain ⟨σ', H1, J1, q1⟩ := hs
    obtain ⟨H', J, q⟩ := q1.run J1
    exact ⟨V.non, H', J.os, J.bare, J.base, J.hok, rfl, q⟩
  | brk => obtain ⟨_, _, _, q⟩ := hs; exact q.elim
  | cont => obtain ⟨_, _, _, q⟩ := hs; exact q.elim
end
/-! ### a promise over trees -/
abbrev Sp' := List U → Mp → QK → XK' → Prop
/-- an exception as it lies -/
def XRep (K : Frag) (H : Hp) (C : Addr) (fs : List (Str × U)) (cls : Value) (d : Option Addr) : Prop :=
  cls = .ref C ∧ ((fs = [] ∧ d = none) ∨ ∃ dd l, d = some dd ∧ H dd = some (.xd l) ∧ fs.map (·.1) = l.map (·.1) ∧ RepL K H (fs.map (·.2)) (l.map (·.2)))
def PostX (K : Frag) (H : Hp) (M : Mp) (e : XK') (E : XK) : Prop := ∀ C fs M', e C fs M' → ∀ cls d H', XRep K H' C fs cls d → RM K H' M' → SK H M H' M' → E cls d H'
def lowSp (K : Frag) (sp : Sp') : Sp := fun vs H Q E => ∃ us M q e, RepL K H us vs ∧ RM K H M ∧ sp us M q e ∧ Post K H M q Q ∧ PostX K H M e E
/-- what is wanted of exceptions within a body: h0, m0 the entry -/
def lowW (K : Frag) (W : WX') : WX := fun cls d σ H => ∃ C fs z M, XRep K H C fs cls d ∧ RS K H σ z ∧ RM K H M ∧ W C fs z M
def eCall (sp : Sp') (W : WX') (ta : TA') : TE' := fun z M q => ta z M fun us M1 => sp us M1 q fun C fs M2 => W C fs z M2
section
variable {X : Cx} {k : Nat} {f C : Addr} {fd : FuncData} {ps : List Str} {x m : Str} {p pos apos : Pos} {e o : Expr} {es : List Expr}
/-- a callee runs; what it lets out is wished for at the slots -/
theorem run_fnG {pins : List (Addr × Obj)} {σ : L2.St} {H : Hp} {s : Shared} {Q : VK} {us : List Value} {vs : List V} {sp : Sp} {W : WX} (F : FnG X.prog X.w X.K X.mg X.base k f fd ps sp) (hr : Room k X.A) (hg : X.A.guards = some []) (hb : Binds X.K fd ps [])
    (tk : Takes X W) (I : Inv X pins σ H s) (r : Vals vs us) (h : sp vs H Q (fun c d H' => W c d σ H')) : wpAny (model X.prog X.w) X.A (call (.ref f) us) (EP X pins σ Q) X.xe s := by
  have hl : (us ++ []).length = ps.length := by rw [List.append_nil, ← r.length]; exact F.len _ _ _ _ h
  have hb' := hb s us I.kIn hl
  rw [List.append_nil] at hb'
  refine wpAny_call (codeAny_mono (F.run X.A X.stack s H ⟨us, []⟩ us vs Q _ hr hg I.env0 hb' r h) ?_)
  intro res s' hq
  cases res with
  | error er => exact tk _ _ (XE.of_call I (fun _ _ _ w => w) hq)
  | ok fl =>
    cases fl with
    | ret u => exact I.after hq
    | next => exact hq.elim
    | brk => exact hq.elim
    | cont => exact hq.elim
theorem low_call {K : Frag} {sp : Sp'} {W : WX'} {us : List U} {vs : List V} {σ : L2.St} {z : SL} {H : Hp} {M : Mp} {q : QK} {Q : VK} (r : RepL K H us vs) (m : RM K H M) (hs : RS K H σ z) (P : Post K H M q Q)
    (h : sp us M q fun C fs M2 => W C fs z M2) : lowSp K sp vs H Q (fun c d H' => lowW K W c d σ H') :=
  ⟨us, M, q, _, r, m, h, P, fun C fs M' w cls d H' xr m' k' => ⟨C, fs, z, M', xr, hs.keep k'.tk, m', w⟩⟩
theorem qe_call {sp : Sp'} {W : WX'} {ta : TA'} (F : FnG X.prog X.w X.K X.mg X.base k f fd ps (lowSp X.K sp)) (hr : Room k X.A) (hg : X.A.guards = some []) (tk : Takes X (lowW X.K W)) (hm : X.mg x = some (.ref f)) (hk : PySem.W.keepIn X.K (.ref f) = true) (hb : Binds X.K fd ps [])
    (ha : QA X (e :: es) ta) (hgl : Gl X x := by rfl) (hdb : (x == ("__debug__" : Str)) = false := by decide) (he : starEach (e :: es) X.env = (false, eval e X.env) :: starEach es X.env := by rfl) (hpl : (backTo pos (starEach es X.env)).any (·.1) = false := by rfl) :
    QE X (.Call (.Name x p) (e :: es) [] pos) (eCall sp W ta) := by
  refine ⟨fun pins s σ H Q I h => ?_⟩
  obtain ⟨z, M, q, hs, m, hq, P⟩ := h
  refine wpAny_Call_Name_kw (ld_glob I hgl hm ?_ hdb)
  refine PySem.W.callWith_K (h₀ := X.base) I.ok.mod.kin hk ?_ he hpl
  refine thn (ha.run pos pins s σ H (fun vs H1 => lowSp X.K sp vs H1 Q (fun c d H' => lowW X.K W c d σ H')) I ⟨z, M, _, hs, m, hq, ?_⟩) ?_
  · intro us M1 h1 vs H1 r m1 k1
    exact low_call r m1 (hs.keep k1.tk) (P.step k1) h1
  · intro us s1 h1
    obtain ⟨vs, H1, I1, r, q1⟩ := h1
    exact ⟨I1.kIn, run_fnG (us := us) F hr hg hb tk I1 r q1⟩
theorem qe_call0 {sp : Sp'} {W : WX'} (F : FnG X.prog X.w X.K X.mg X.base k f fd ps (lowSp X.K sp)) (hr : Room k X.A) (hg : X.A.guards = some []) (tk : Takes X (lowW X.K W)) (hm : X.mg x = some (.ref f)) (hk : PySem.W.keepIn X.K (.ref f) = true) (hb : Binds X.K fd ps [])
    (hgl : Gl X x := by rfl) (hdb : (x == ("__debug__" : Str)) = false := by decide) :
    QE X (.Call (.Name x p) [] [] pos) (eCall sp W fun _ M q => q [] M) := by
  refine ⟨fun pins s σ H Q I h => ?_⟩
  obtain ⟨z, M, q, hs, m, hq, P⟩ := h
  refine wpAny_Call_Name_kw (ld_glob I hgl hm ?_ hdb)
  exact PySem.W.callWith_K0 I.kIn hk (run_fnG (us := []) (vs := []) F hr hg hb tk I .nil (low_call .nil m hs P hq))
/-! ### argument lists, displays -/
def eNil : TA' := fun _ M q => q [] M
def eCons (a : TE') (r : TA') : TA' := fun z M q => a z M fun x M1 => r z M1 fun xs M2 => q (x :: xs) M2
theorem qa_nil : QA X [] eNil := imA pa_nil fun σ H Q h => by
  obtain ⟨z, M, q, hs, m, hq, P⟩ := h
  exact P [] M hq [] H .nil m (.refl H M)
theorem qa_cons {ta : TE'} {tr : TA'} (ha : QE X e ta) (hr : QA X es tr) (hs : starEach (e :: es) X.env = (false, eval e X.env) :: starEach es X.env := by rfl) : QA X (e :: es) (eCons ta tr) := imA (pa_cons ha hr hs) fun σ H Q h => by
  obtain ⟨z, M, q, hs, m, hq, P⟩ := h
  refine ⟨z, M, _, hs, m, hq, fun x M1 h1 v H1 r1 m1 k1 => ?_⟩
  refine ⟨z, M1, _, hs.keep k1.tk, m1, h1, fun xs M2 h2 vs H2 r2 m2 k2 => ?_⟩
  exact P _ _ h2 _ _ (.cons (r1.keep k2.tk) r2) m2 (k1.trans k2)
def eTup (t : TA') : TE' := fun z M q => t z M fun xs M1 => xs.length ≤ sizeLine ∧ newT xs M1 q
def eLst (t : TA') : TE' := fun z M q => t z M fun xs M1 => xs.length ≤ sizeLine ∧ newL xs M1 q
theorem qe_tup {ta : TA'} {x1} (h : QA X es ta) : QE X (.Tuple es x1 pos) (eTup ta) := imE (pe_tup h) fun σ H Q h => by
  obtain ⟨z, M, q, hs, m, hq, P⟩ := h
  refine ⟨z, M, _, hs, m, hq, fun us M1 h1 vs H1 r1 m1 k1 => ⟨by rw [← r1.len]; exact h1.1, fun p hp => newT_ok m1 r1 h1.2 (P.step k1) hp⟩⟩
theorem qe_lst {ta : TA'} (h : QA X es ta) : QE X (.List es pos) (eLst ta) := imE (PE.fz (pe_lst h)) fun σ H Q h => by
  obtain ⟨z, M, q, hs, m, hq, P⟩ := h
  refine ⟨z, M, _, hs, m, hq, fun us M1 h1 vs H1 r1 m1 k1 => ⟨by rw [← r1.len]; exact h1.1, fun p hp => newL_ok m1 r1 h1.2 (P.step k1) hp⟩⟩
end
end L3

set_option Elab.async false
set_option linter.all false
set_option maxRecDepth 100000
set_option maxHeartbeats 4000000
namespace L3
open PySem PySem.Spec L2
open PyProof.Rows hiding St
theorem fz.mono {Q Q' : VK} {v : V} {H : Hp} (h : fz Q v H) (k : ∀ H, Q v H → Q' v H) : fz Q' v H := by
  induction h with
  | here q => exact .here (k _ q)
  | lock e _ ih => exact .lock e fun o => ih o
/-! ### where a def ends: what it made may be dropped, its lists locked -/
def Gz (q : QK) : QK := fun u M => ∀ (K : Frag) (H : Hp) (v : V), Rep K H u v → RM K H M → fz (fun v H' => TK H H' ∧ ∃ u' M', q u' M' ∧ Rep K H' u' v ∧ RM K H' M') v H
section
variable {q : QK} {u : U} {M : Mp} {a : Addr} {xs : List U}
theorem Gz.here (h : q u M) : Gz q u M := fun K H v r m => .here ⟨.refl H, u, M, h, r, m⟩
theorem RM.drp {K : Frag} {H : Hp} (m : RM K H M) : RM K H (drp M a) := fun b o e => by
  by_cases z : b = a
  · rw [z, drp_same] at e; cases e
  · rw [drp_ne z] at e; exact m b o e
theorem Gz.drp (h : Gz q u (drp M a)) : Gz q u M := fun K H v r m => h K H v r m.drp
theorem Gz.frz (e : M a = some (.lst xs)) (h : Gz q (.lst xs) (L3.drp M a)) : Gz q (.ref a) M := fun K H v r m => by
  obtain ⟨vs, ha, rv⟩ := m a _ e
  have ev := rref r
  subst ev
  refine .lock ha fun o => ?_
  have tk : TK H (upd H a (.frz o (.lst vs))) := .wr ha (fun xs z => nomatch z) fun o x z => nomatch z
  have m' : RM K (upd H a (.frz o (.lst vs))) (L3.drp M a) := fun b x eb => by
    have nb : b ≠ a := fun z => by rw [z, drp_same] at eb; cases eb
    rw [drp_ne nb] at eb
    exact (m b x eb).keep tk (fun y hy => by rw [upd_ne nb]; exact hy) fun c hc => by rw [upd_ne (fun z => by rw [z, ha] at hc; cases hc)]; exact hc
  have r' : Rep K (upd H a (.frz o (.lst vs))) (.lst xs) (.ref a) := by
    simp only [Rep]
    exact ⟨a, vs, rfl, .inl ⟨o, upd_same⟩, rv.keep tk⟩
  exact (h K _ _ r' m').mono fun H2 ⟨k2, w⟩ => ⟨tk.trans k2, w⟩
theorem Gz.post {K : Frag} {H : Hp} {Q : VK} (P : Post K H M q Q) : Post K H M (Gz q) (fz Q) := fun u M' h v H' r m k =>
  (h K H' v r m).mono fun H2 ⟨k2, u', M2, q2, r2, m2⟩ => P u' M2 q2 v H2 r2 m2 (k.trans ⟨k2⟩)
end
section
variable {P : Program} {w : World} {K : Frag} {mg : Str → Option Value} {base : Heap} {k : Nat} {f : Addr} {fd : FuncData} {ps : List Str}
/-- a def by its body, over trees -/
theorem fn_tree {x qual : Str} {st : Stmt} {N : List Str} {sp : Sp'} (F : Fun K x qual st f fd) (S : FnScope N ps (defScope st)) (len : ∀ us M q e, sp us M q e → us.length = ps.length)
    (hbody : ∀ (cdv : Value) (A : Around) (outer : List Env) (s : Shared) (H : Hp) (E : XK) (us : List U) (M : Mp) (q : QK) (e : XK'), Room k (A.deeper (envOfC qual (defScope st) s.heap.objs.size f cdv)) → A.guards = some [] →
      Takes (cxOf (L2.CX P w) P w K mg base N qual (defScope st) f cdv A outer s H E) (lowW K fun C fs _ M' => e C fs M') → sp us M q e →
      ∃ t, QSs (cxOf (L2.CX P w) P w K mg base N qual (defScope st) f cdv A outer s H E) (defBody st) t ∧ t { nx := fun _ M' => Gz q .non M', rt := Gz q } (startU N.length us) M) : FnG P w K mg base (k + 1) f fd ps (lowSp K sp) := by
  refine fnG_of F S ?_ ?_
  · rintro vs H Q E ⟨us, M, q, e, r, _, h, _⟩
    rw [← r.len]
    exact len us M q e h
  · intro cdv A outer s H vs Q E hr hg hsp
    obtain ⟨us, M, q, e, r, m, h, P1, P2⟩ := hsp
    have tk : Takes (cxOf (L2.CX P w) P w K mg base N qual (defScope st) f cdv A outer s H E) (lowW K fun C fs _ M' => e C fs M') := by
      intro u s' hx
      obtain ⟨a, B, sI, pins, σ, H', cls, d, eu, I, nb, up, sky, na, os, ag, C, fs, z, M', xr, _, m', w'⟩ := hx
      refine takes_of (X := cxOf (L2.CX P w) P w K mg base N qual (defScope st) f cdv A outer s H E) (E := E) rfl rfl rfl rfl u s' ?_
      exact ⟨a, B, sI, pins, σ, H', cls, d, eu, I, nb, up, sky, na, os, ag, P2 C fs M' w' cls d H' xr m' ⟨I.base.tups, I.base.frzs⟩⟩
    obtain ⟨t, ht, hq⟩ := hbody cdv A outer s H E us M q e hr hg tk h
    refine ⟨_, ht, startU N.length us, M, _, RS.start r, m, hq, ?_⟩
    exact ⟨fun z M' h' σ H' rs m' k' => Gz.post P1 _ _ h' _ _ (by simp only [Rep]) m' k', Gz.post P1, fun _ _ h' => h'.elim, fun _ _ h' => h'.elim⟩
end
/-! ### statements -/
section
variable {X : Cx} {st : Stmt} {rest a b : List Stmt} {t u : TS'} {e c : Expr} {te : TE'} {tc : TT'} {pos : Pos}
def sNext : TS' := fun d z M => d.nx z M
def sSeq (t u : TS') : TS' := fun d z M => t { d with nx := u d } z M
theorem qss_nil : QSs X [] sNext := imSs pss_nil fun D σ H ⟨z, M, d, rs, m, h, P⟩ => P.nx z M h σ H rs m (.refl H M)
theorem qss_one (h : QS X st t) : QSs X [st] t := pss_one h
theorem qss_cons (h1 : QS X st t) (h2 : QSs X rest u) : QSs X (st :: rest) (sSeq t u) := imSs (pss_cons h1 h2) fun D σ H ⟨z, M, d, rs, m, h, P⟩ =>
  ⟨z, M, _, rs, m, h, ⟨fun z' M' h' σ' H' rs' m' k' => ⟨z', M', d, rs', m', h', P.step k'⟩, P.rt, P.bk, P.ct⟩⟩
def sBreak : TS' := fun d z M => d.bk z M
def sCont : TS' := fun d z M => d.ct z M
theorem qs_pass : QS X (.Pass pos) sNext := imS ps_pass fun D σ H ⟨z, M, d, rs, m, h, P⟩ => P.nx z M h σ H rs m (.refl H M)
theorem qs_break : QS X (.Break pos) sBreak := imS ps_break fun D σ H ⟨z, M, d, rs, m, h, P⟩ => P.bk z M h σ H rs m (.refl H M)
theorem qs_continue : QS X (.Continue pos) sCont := imS ps_continue fun D σ H ⟨z, M, d, rs, m, h, P⟩ => P.ct z M h σ H rs m (.refl H M)
def sExpr (te : TE') : TS' := fun d z M => te z M fun _ M1 => d.nx z M1
theorem qs_expr (he : QE X e te) (hs : swapsWith e none pos.line X.env = pure false := by rfl) : QS X (.Expr e pos) (sExpr te) := imS (ps_expr he hs) fun D σ H ⟨z, M, d, rs, m, h, P⟩ =>
  ⟨z, M, _, rs, m, h, fun u M' h' v H' r m' k' => P.nx z M' h' σ H' (rs.keep k'.tk) m' k'⟩
def sRet (te : TE') : TS' := fun d z M => te z M d.rt
theorem qs_ret (he : QE X e te) : QS X (.Return (some e) pos) (sRet te) := imS (ps_ret he) fun D σ H ⟨z, M, d, rs, m, h, P⟩ => ⟨z, M, _, rs, m, h, P.rt⟩
def sRetN : TS' := fun d _ M => d.rt .non M
theorem qs_retN : QS X (.Return none pos) sRetN := imS ps_retN fun D σ H ⟨z, M, d, rs, m, h, P⟩ => P.rt _ _ h _ _ (by simp only [Rep]) m (.refl H M)
def ifB (c : Bool) (p r : Prop) : Prop := match c with
  | true => p
  | false => r
def sIf (c : TT') (t u : TS') : TS' := fun d z M => c z M fun b M1 => ifB b (t d z M1) (u d z M1)
theorem qs_if (hc : QT X c tc) (ha : QSs X a t) (hb : QSs X b u) : QS X (.If c a b pos) (sIf tc t u) := imS (ps_if hc ha hb) fun D σ H ⟨z, M, d, rs, m, h, P⟩ =>
  ⟨z, M, _, rs, m, h, fun b M' h' H' m' k' => by
    cases b with
    | true => exact iteT ⟨z, M', d, rs.keep k'.tk, m', h', P.step k'⟩
    | false => exact iteF ⟨z, M', d, rs.keep k'.tk, m', h', P.step k'⟩⟩
def sSet (i : Nat) (te : TE') : TS' := fun d z M => te z M fun u M1 => d.nx (setS z i (some u)) M1
theorem low_set {K : Frag} {i : Nat} {te : TE'} {D : Ends} {σ : L2.St} {H : Hp} (h : lowS K (sSet i te) D σ H) : tAsg (lowE K te) (gName i) D σ H := by
  obtain ⟨z, M, d, rs, m, h, P⟩ := h
  exact ⟨z, M, _, rs, m, h, fun u M' h' v H' r m' k' => P.nx _ M' h' _ H' ((rs.keep k'.tk).set r) m' k'⟩
theorem qs_set {i : Nat} {x : Str} {pos' : Pos} (hN : X.N.Nodup) (he : QE X e te) (hi : X.N[i]? = some x := by rfl) (hx : Loc X.env.scope x := by first | exact Or.inl rfl | exact Or.inr rfl) (hs : swapsWith e (some (.Name x pos')) pos.line X.env = pure false := by rfl)
    (hf : X.fn x = true ∨ X.env.scope.names.lookup x = some .local := by first | exact .inl rfl | exact .inr rfl | assumption) : QS X (.Assign [.Name x pos'] e pos) (sSet i te) := imS (ps_set hN hi hx he hs hf) fun _ _ _ h => low_set h
/-- while: W what holds ahead of each test, with a measure -/
def sWhile (c : TT') (t : TS') : TS' := fun d z M => ∃ W : Nat → SL → Mp → Prop, (∃ n, W n z M) ∧ ∀ n z M, W n z M → c z M fun b M1 => ifB b (t { d with nx := fun z' M' => ∃ n', n' < n ∧ W n' z' M', ct := fun z' M' => ∃ n', n' < n ∧ W n' z' M', bk := d.nx } z M1) (d.nx z M1)
theorem qs_while (hp : PassesOwn (model X.prog X.w) X.A X.env X.xe) (hc : QT X c tc) (hb : QSs X b t) : QS X (.While c b [] pos) (sWhile tc t) := imS (ps_while hp hc hb) fun D σ H ⟨z, M, d, rs, m, ⟨W, ⟨n, w0⟩, tn⟩, P⟩ => by
  refine ⟨fun n σ' H' => ∃ z' M', RS X.K H' σ' z' ∧ RM X.K H' M' ∧ W n z' M' ∧ TK H H', ⟨n, z, M, rs, m, w0, .refl H⟩, ?_⟩
  rintro n σ1 H1 ⟨z1, M1, rs1, m1, w1, k1⟩
  refine ⟨z1, M1, _, rs1, m1, tn n z1 M1 w1, fun b M2 h2 H2 m2 k2 => ?_⟩
  have k12 : SK H M H2 M2 := ⟨k1.trans k2.tk⟩
  cases b with
  | true =>
    refine iteT ⟨fun σ' H' => ∃ n' z' M', n' < n ∧ RS X.K H' σ' z' ∧ RM X.K H' M' ∧ W n' z' M' ∧ TK H H', fun σ' H' ⟨n', z', M', l, q1, q2, q3, q4⟩ => ⟨n', l, z', M', q1, q2, q3, q4⟩, ?_⟩
    have go : PostS X.K H2 M2 (fun z' M' => ∃ n', n' < n ∧ W n' z' M') (fun σ' H' => ∃ n' z' M', n' < n ∧ RS X.K H' σ' z' ∧ RM X.K H' M' ∧ W n' z' M' ∧ TK H H') :=
      fun z' M' ⟨n', l, w'⟩ σ' H' rs' m' k' => ⟨n', z', M', l, rs', m', w', k12.tk.trans k'.tk⟩
    exact ⟨z1, M2, _, rs1.keep k2.tk, m2, h2, ⟨go, P.rt.step k12, P.nx.step k12, go⟩⟩
  | false => exact iteF (P.nx z1 M2 h2 σ1 H2 (rs1.keep k2.tk) m2 k12)
end
end L3

set_option Elab.async false
set_option linter.all false
set_option maxRecDepth 100000
set_option maxHeartbeats 4000000
namespace L3
open PySem PySem.Spec L2
open PyProof.Rows hiding St
/-! ### targets -/
abbrev TG' := U → SL → Mp → (SL → Mp → Prop) → Prop
abbrev TGs' := List U → SL → Mp → (SL → Mp → Prop) → Prop
def lowG (K : Frag) (t : TG') : TG := fun v σ H Q => ∃ u z M q, Rep K H u v ∧ RS K H σ z ∧ RM K H M ∧ t u z M q ∧ PostS K H M q Q
def lowGs (K : Frag) (t : TGs') : TGs := fun vs σ H Q => ∃ us z M q, RepL K H us vs ∧ RS K H σ z ∧ RM K H M ∧ t us z M q ∧ PostS K H M q Q
def QG (X : Cx) (e : Expr) (t : TG') : Prop := PG X e (lowG X.K t)
def QGs (X : Cx) (es : List Expr) (t : TGs') : Prop := PGs X es (lowGs X.K t)
theorem imG {X : Cx} {e : Expr} {t t' : TG} (h : PG X e t) (k : ∀ v σ H Q, t' v σ H Q → t v σ H Q) : PG X e t' := ⟨fun pins s σ H v u Q I r w => h.run pins s σ H v u Q I r (k v σ H Q w)⟩
theorem imGs {X : Cx} {es : List Expr} {t t' : TGs} (h : PGs X es t) (k : ∀ v σ H Q, t' v σ H Q → t v σ H Q) : PGs X es t' := ⟨fun pins s σ H v u Q I r w => h.run pins s σ H v u Q I r (k v σ H Q w)⟩
theorem PG.or {X : Cx} {e : Expr} {t t' : TG} (h : PG X e t) (h' : PG X e t') : PG X e (fun v σ H Q => t v σ H Q ∨ t' v σ H Q) :=
  ⟨fun pins s σ H v u Q I r w => w.elim (h.run pins s σ H v u Q I r) (h'.run pins s σ H v u Q I r)⟩
def gN (i : Nat) : TG' := fun u z M q => q (setS z i (some u)) M
def gsNil : TGs' := fun us z M q => match us with
  | [] => q z M
  | _ :: _ => False
def gsCons (t : TG') (r : TGs') : TGs' := fun us z M q => match us with
  | [] => False
  | u :: us => t u z M fun z1 M1 => r us z1 M1 q
/-- a, b, .. = a tuple or a list of n things -/
structure gTuple (n : Nat) (t : TGs') (u : U) (z : SL) (M : Mp) (q : SL → Mp → Prop) : Prop where
  h : match seqT u with
    | some xs => xs.length = n ∧ t xs z M q
    | none => ∃ xs, seqL M u = some xs ∧ xs.length = n ∧ t xs z M q
section
variable {X : Cx} {pos : Pos}
theorem qg_name {i : Nat} {x : Str} (hN : X.N.Nodup) (hi : X.N[i]? = some x := by rfl) (hx : Loc X.env.scope x := by first | exact Or.inl rfl | exact Or.inr rfl)
    (hf : X.fn x = true ∨ X.env.scope.names.lookup x = some .local := by first | exact .inl rfl | exact .inr rfl | assumption) : QG X (.Name x pos) (gN i) := imG (pg_name hN hi hx hf) fun v σ H Q ⟨u, z, M, q, r, rs, m, h, P⟩ =>
  P _ M h _ H (rs.set r) m (.refl H M)
theorem qgs_nil : QGs X [] gsNil := imGs pgs_nil fun v σ H Q ⟨us, z, M, q, r, rs, m, h, P⟩ => by
  cases us with
  | nil => simp only [RepL] at r; exact ⟨r, P z M h σ H rs m (.refl H M)⟩
  | cons _ _ => exact (show False from h).elim
theorem qgs_cons {e : Expr} {es : List Expr} {t : TG'} {r : TGs'} (h1 : QG X e t) (h2 : QGs X es r) (hs : (assignEach (e :: es) X.env).map (·.2) = assign e X.env :: (assignEach es X.env).map (·.2) := by rfl) : QGs X (e :: es) (gsCons t r) :=
  imGs (pgs_cons h1 h2 hs) fun v σ H Q ⟨us, z, M, q, rr, rs, m, h, P⟩ => by
    cases us with
    | nil => exact (show False from h).elim
    | cons u us =>
      simp only [RepL] at rr
      obtain ⟨x, xs, rfl, r1, r2⟩ := rr
      exact ⟨x, xs, rfl, u, z, M, _, r1, rs, m, h, fun z1 M1 q1 σ1 H1 rs1 m1 k1 => ⟨us, z1, M1, q, r2.keep k1.tk, rs1, m1, q1, P.step k1⟩⟩
theorem qg_tup {es : List Expr} {k : Nat} {t : TGs'} {n : Nat} (hc : X.calm = true) (h : QGs X es t) (hn : (assignEach es X.env).length = n := by rfl) (hst : (assignEach es X.env).findIdx? (·.1) = none := by rfl) : QG X (.Tuple es k pos) (gTuple n t) :=
  imG (PG.or (pg_tup hc h hn hst) (pg_unl hc h hn hst)) fun v σ H Q ⟨u, z, M, q, r, rs, m, w, P⟩ => by
    have w' : (match seqT u with | some xs => xs.length = n ∧ t xs z M q | none => ∃ xs, seqL M u = some xs ∧ xs.length = n ∧ t xs z M q) := w.h
    cases e : seqT u with
    | some xs =>
      rw [e] at w'
      obtain ⟨a, vs, ev, s, r'⟩ := seqT_of e r
      exact .inl ⟨a, vs, ev, s, by rw [← r'.len]; exact w'.1, xs, z, M, q, r', rs, m, w'.2, P⟩
    | none =>
      rw [e] at w'
      obtain ⟨xs, e1, l, w1⟩ := w'
      obtain ⟨a, vs, ev, s, r'⟩ := seqL_of m e1 r
      exact .inr ⟨a, vs, ev, s, by rw [← r'.len]; exact l, xs, z, M, q, r', rs, m, w1, P⟩
/-- target = e -/
def sAsg (te : TE') (g : TG') : TS' := fun d z M => te z M fun u M1 => g u z M1 d.nx
theorem qs_asg {tg e : Expr} {te : TE'} {g : TG'} (he : QE X e te) (hg : QG X tg g) (hs : swapsWithSole [tg] e pos.line X.env = pure false := by rfl) (hw : swappedStores [tg] e X.env = pure none := by rfl)
    (h1 : (assignEach [tg] X.env).map (·.2) = [assign tg X.env] := by rfl) : QS X (.Assign [tg] e pos) (sAsg te g) := imS (ps_asg he hg hs hw h1) fun D σ H ⟨z, M, d, rs, m, h, P⟩ =>
  ⟨z, M, _, rs, m, h, fun u M' h' v H' r m' k' => ⟨u, z, M', d.nx, r, rs.keep k'.tk, m', h', P.nx.step k'⟩⟩
/-- a, b = e1, e2 with plain local names -/
def two (us : List U) (k : U → U → Prop) : Prop := match us with
  | [u, w] => k u w
  | _ => False
theorem two_inv {us : List U} {k : U → U → Prop} (h : two us k) : ∃ u w, us = [u, w] ∧ k u w := by
  match us, h with
  | [u, w], h => exact ⟨u, w, rfl, h⟩
def sPar (i j : Nat) (ta : TA') : TS' := fun d z M => ta z M fun us M1 => two us fun u w => d.nx (setS (setS z i (some u)) j (some w)) M1
theorem qs_par {i j : Nat} {x y : Str} {a b : Expr} {ta : TA'} {px py pt : Pos} {kt k2 pt2} (hc : X.calm = true) (hN : X.N.Nodup) (ha : QA X [a, b] ta) (hi : X.N[i]? = some x := by rfl) (hj : X.N[j]? = some y := by rfl) (hij : i ≠ j := by decide)
    (hx : X.env.scope.names.lookup x = some .local := by rfl) (hy : X.env.scope.names.lookup y = some .local := by rfl)
    (hw : swappedStores [.Tuple [.Name x px, .Name y py] kt pt] (.Tuple [a, b] k2 pt2) X.env = pure (some [x, y]) := by rfl)
    (hs : swapsWithSole [.Tuple [.Name x px, .Name y py] kt pt] (.Tuple [a, b] k2 pt2) pos.line X.env = pure false := by rfl) :
    QS X (.Assign [.Tuple [.Name x px, .Name y py] kt pt] (.Tuple [a, b] k2 pt2) pos) (sPar i j ta) := imS (ps_par hc hN hi hj hij hx hy ha hw hs) fun D σ H ⟨z, M, d, rs, m, h, P⟩ =>
  ⟨z, M, _, rs, m, h, fun us M' h' vs H' r m' k' => by
    obtain ⟨u, w, rfl, h2⟩ := two_inv h'
    simp only [RepL] at r
    obtain ⟨v1, r1, rfl, q1, v2, r2, rfl, q2, rfl⟩ := r
    exact ⟨v1, v2, rfl, P.nx _ M' h2 _ H' (((rs.keep k'.tk).set q1).set q2) m' k'⟩⟩
end
/-! ### what is walked: its items, what must hold while it is walked -/
abbrev TI' := SL → Mp → (List U → (Mp → Prop) → Mp → Prop) → Prop
/-- J yields the trees xs, while side holds -/
def Iters (K : Frag) (J : It) (xs : List U) (side : Mp → Prop) (H1 : Hp) : Prop := ∀ (i : Nat) (H : Hp) (M : Mp), TK H1 H → RM K H M → side M →
  (∀ x, xs[i]? = some x → J.go i H ∧ ∀ v H', J.yld i H v H' → Rep K H' x v ∧ RM K H' M ∧ TK H H') ∧ (xs.length ≤ i → J.stop i H)
def lowI (K : Frag) (t : TI') : TI := fun σ H R => ∃ z M r, RS K H σ z ∧ RM K H M ∧ t z M r ∧ ∀ xs side M1, r xs side M1 → ∀ J H1, Iters K J xs side H1 → RM K H1 M1 → TK H H1 → R J H1
def QI (X : Cx) (tg it : Expr) (t : TI') : Prop := PI X tg it (lowI X.K t)
theorem imI {X : Cx} {tg it : Expr} {t t' : TI} (h : PI X tg it t) (k : ∀ σ H R, t' σ H R → t σ H R) : PI X tg it t' := ⟨fun pins s σ H R I w => h.run pins s σ H R I (k σ H R w)⟩
theorem PI.or {X : Cx} {tg it : Expr} {t t' : TI} (h : PI X tg it t) (h' : PI X tg it t') : PI X tg it (fun σ H R => t σ H R ∨ t' σ H R) := ⟨fun pins s σ H R I w => w.elim (h.run pins s σ H R I) (h'.run pins s σ H R I)⟩
/-- for: W by the turn -/
def sFor (it : TI') (g : TG') (t : TS') : TS' := fun d z M => it z M fun xs side M1 => ∃ W : Nat → SL → Mp → Prop, W 0 z M1 ∧ (∀ i z M, W i z M → side M) ∧
  (∀ (i : Nat) x z M, xs[i]? = some x → W i z M → g x z M fun z2 M2 => t { d with nx := W (i + 1), ct := W (i + 1), bk := d.nx } z2 M2) ∧ ∀ z M, W xs.length z M → d.nx z M
section
variable {X : Cx} {pos : Pos} {tg iter : Expr} {body : List Stmt} {it : TI'} {g : TG'} {t : TS'}
theorem qs_for (hp : PassesOwn (model X.prog X.w) X.A X.env X.xe) (hc : X.calm = true) (hi : QI X tg iter it) (hg : QG X tg g) (hb : QSs X body t) (hs : ∀ x, foldedSetIterable iter X.env x = pure x := by intro _; rfl) : QS X (.For tg iter body [] pos) (sFor it g t) :=
  imS (ps_for hp hc hi hg hb hs) fun D σ H ⟨z, M, d, rs, m, h, P⟩ => by
    refine ⟨z, M, _, rs, m, h, ?_⟩
    rintro xs side M1 ⟨W, w0, ws, wt, wd⟩ J H1 IJ m1 k1
    refine ⟨fun i n σ' H' => n = xs.length - i ∧ i ≤ xs.length ∧ ∃ z' M', RS X.K H' σ' z' ∧ RM X.K H' M' ∧ W i z' M' ∧ TK H1 H', ⟨xs.length, by simp, Nat.zero_le _, z, M1, rs.keep k1, m1, w0, .refl H1⟩, ?_⟩
    rintro i n σ2 H2 ⟨rfl, hi, z2, M2, rs2, m2, w2, k2⟩
    obtain ⟨j1, j2⟩ := IJ i H2 M2 k2 m2 (ws i z2 M2 w2)
    by_cases hl : i < xs.length
    · obtain ⟨g1, g2⟩ := j1 xs[i] (by simp [hl])
      refine .inr ⟨g1, fun σ' H' => ∃ z' M', RS X.K H' σ' z' ∧ RM X.K H' M' ∧ W (i + 1) z' M' ∧ TK H1 H', fun σ' H' ⟨z', M', q1, q2, q3, q4⟩ => ⟨xs.length - (i + 1), by omega, rfl, hl, z', M', q1, q2, q3, q4⟩, fun v H3 y => ?_⟩
      obtain ⟨r3, m3, k3⟩ := g2 v H3 y
      refine ⟨xs[i], z2, M2, _, r3, rs2.keep k3, m3, wt i xs[i] z2 M2 (by simp [hl]) w2, fun z4 M4 h4 σ4 H4 rs4 m4 k4 => ?_⟩
      have k14 : TK H1 H4 := (k2.trans k3).trans k4.tk
      have go : PostS X.K H4 M4 (W (i + 1)) (fun σ' H' => ∃ z' M', RS X.K H' σ' z' ∧ RM X.K H' M' ∧ W (i + 1) z' M' ∧ TK H1 H') := fun z' M' w' σ' H' rs' m' k' => ⟨z', M', rs', m', w', k14.trans k'.tk⟩
      exact ⟨z4, M4, _, rs4, m4, h4, ⟨go, P.rt.step ⟨k1.trans k14⟩, P.nx.step ⟨k1.trans k14⟩, go⟩⟩
    · have e : i = xs.length := by omega
      exact .inl ⟨j2 (by omega), P.nx z2 M2 (wd z2 M2 (by rw [← e]; exact w2)) σ2 H2 rs2 m2 ⟨k1.trans k2⟩⟩
end
/-! ### the things walked -/
def yes : Mp → Prop := fun _ => True
/-- the signs of a text -/
def signsU (x : Str) : List U := x.cps.toList.map fun c => .str ⟨#[c]⟩
structure iterQ (u : U) (M1 : Mp) (r : List U → (Mp → Prop) → Mp → Prop) : Prop where
  q : match u with
    | .str x => r (signsU x) yes M1
    | u => match seqT u with
      | some xs => r xs yes M1
      | none => ∃ xs, seqL M1 u = some xs ∧ r xs (fun M => seqL M u = some xs) M1
def iSeq (te : TE') : TI' := fun z M r => te z M fun u M1 => iterQ u M1 r
/-- the items of what stands there: a list's, a tuple's, a text's signs -/
theorem pi_any {X : Cx} {tg l : Expr} {tl : TE} (hl : PE X l tl) : PI X tg l (fun σ H R => tl σ H fun x H1 => (∃ a xs, x = .ref a ∧ ((SqL X.K H1 a xs ∧ R (Itl X.K a) H1) ∨ (SqT X.K H1 a xs ∧ R (Itt X.K a) H1))) ∨ ∃ y, x = .str y ∧ R (Its y) H1) := by
  refine ⟨fun pins s σ H R I h => ?_⟩
  refine thn (hl.run pins s σ H _ I h) ?_
  intro v s1 h1
  obtain ⟨x, H1, I1, r1, ⟨a, xs, ex, q⟩ | ⟨y, ex, q⟩⟩ := h1
  · subst ex
    cases r1
    have fp : ∀ b ∈ [s1.heap.objs.size], FpOk X pins H1 b := fun b hb => by
      have e : b = s1.heap.objs.size := by simpa using hb
      rw [e]
      exact I1.fpOk (Nat.le_refl _) I1.fresh
    rcases q with ⟨hq, q⟩ | ⟨hq, q⟩
    · obtain ⟨its, rv, p, hz⟩ := I1.list hq
      refine wpAny_pyIter_list p.isList ⟨s1.heap.objs.size, [s1.heap.objs.size], _, _, H1, rfl, I1.kept (t' := s1.toks) (fun b o e => Heap.get?_push_of_some _ e), turn_list a _, ⟨_, Heap.get?_push_size _ rfl, rfl, rfl⟩, fp, q⟩
    · obtain ⟨its, rv, p, hz⟩ := I1.tuple hq
      refine wpAny_pyIter_tuple (show s1.heap.IsTuple a its.toArray from p) ⟨s1.heap.objs.size, [s1.heap.objs.size], _, _, H1, rfl, I1.kept (t' := s1.toks) (fun b o e => Heap.get?_push_of_some _ e), turn_tuple a _, ⟨_, Heap.get?_push_size _ rfl, rfl, rfl⟩, fp, q⟩
  · subst ex
    obtain ⟨t, eu⟩ := r1
    subst eu
    by_cases ha : y.cps.all (· < 128) = true
    · exact wpAny_pyIter_ascii ha (pi_one (tk := s1.toks) I1 _ (turn_str _ y t "str_ascii_iterator" (.inl rfl)) ⟨_, Heap.get?_push_size _ rfl, rfl, rfl⟩ q)
    · exact wpAny_pyIter_wide (by simpa using ha) (pi_one (tk := s1.toks) I1 _ (turn_str _ y t "str_iterator" (.inr rfl)) ⟨_, Heap.get?_push_size _ rfl, rfl, rfl⟩ q)
theorem iters_str {K : Frag} {x : Str} {H1 : Hp} : Iters K (Its x) (signsU x) yes H1 := by
  intro i H M k m _
  have hl : (signsU x).length = x.cps.size := by simp [signsU]
  refine ⟨fun y hy => ?_, fun h => by rw [hl] at h; exact h⟩
  unfold signsU at hy
  rw [List.getElem?_map, Array.getElem?_toList] at hy
  cases e : x.cps[i]? with
  | none => rw [e] at hy; cases hy
  | some c =>
    rw [e] at hy
    cases hy
    have hi : i < x.cps.size := by
      obtain ⟨h, _⟩ := Array.getElem?_eq_some_iff.mp e
      exact h
    refine ⟨hi, fun v H' yl => ?_⟩
    obtain ⟨eH, c', e', rfl⟩ := yl
    subst eH
    rw [e] at e'
    cases e'
    exact ⟨.s, m, .refl _⟩
theorem iters_list {K : Frag} {a : Addr} {xs : List U} {side : Mp → Prop} {H1 : Hp} (h : ∀ H M, TK H1 H → RM K H M → side M → ∃ vs, SqL K H a vs ∧ RepL K H xs vs) : Iters K (Itl K a) xs side H1 := by
  intro i H M k m sd
  obtain ⟨vs, s, r⟩ := h H M k m sd
  refine ⟨fun x hx => ?_, fun hl => ⟨vs, s, by rw [← r.len]; exact hl⟩⟩
  obtain ⟨v, hv, rv⟩ := r.get hx
  refine ⟨⟨vs, v, s, hv⟩, fun v' H' y => ?_⟩
  obtain ⟨e, y⟩ := y
  subst e
  have e2 := (y vs s).symm.trans hv
  cases e2
  exact ⟨rv, m, .refl _⟩
theorem iters_tup {K : Frag} {a : Addr} {xs : List U} {H1 : Hp} {vs : List V} (s : SqT K H1 a vs) (r : RepL K H1 xs vs) : Iters K (Itt K a) xs yes H1 := by
  intro i H M k m _
  have s' := k.seqT s
  have r' := r.keep k
  refine ⟨fun x hx => ?_, fun hl => ⟨vs, s', by rw [← r.len]; exact hl⟩⟩
  obtain ⟨v, hv, rv⟩ := r'.get hx
  refine ⟨⟨vs, v, s', hv⟩, fun v' H' y => ?_⟩
  obtain ⟨e, y⟩ := y
  subst e
  have e2 := (y vs s').symm.trans hv
  cases e2
  exact ⟨rv, m, .refl _⟩
/-- lo, lo + 1, ..: n numbers -/
def rangeU (lo : Int) (n : Nat) : List U := (List.range n).map fun i : Nat => U.int (lo + i)
theorem rangeU_len (lo : Int) (n : Nat) : (rangeU lo n).length = n := by simp [rangeU]
theorem rangeU_get {lo : Int} {n i : Nat} {x : U} (h : (rangeU lo n)[i]? = some x) : i < n ∧ x = .int (lo + i) := by
  unfold rangeU at h
  rw [List.getElem?_map] at h
  by_cases hi : i < n
  · rw [List.getElem?_range hi] at h
    exact ⟨hi, by simpa using h.symm⟩
  · rw [List.getElem?_eq_none (by simpa using hi)] at h
    cases h
theorem iters_range {K : Frag} {lo : Int} {n : Nat} {H1 : Hp} : Iters K (Itr lo n) (rangeU lo n) yes H1 := by
  intro i H M k m _
  refine ⟨fun x hx => ?_, fun hl => ?_⟩
  · obtain ⟨hi, rfl⟩ := rangeU_get hx
    refine ⟨hi, fun v H' y => ?_⟩
    obtain ⟨e, y⟩ := y
    subst e y
    exact ⟨.i, m, .refl _⟩
  · rw [rangeU_len] at hl
    exact hl
section
variable {X : Cx} {pos p : Pos} {tg e a b c : Expr} {te : TE'} {ta : TA'}
theorem qi_seq (he : QE X e te) : QI X tg e (iSeq te) := imI (pi_any he) fun σ H R ⟨z, M, r, rs, m, h, P⟩ =>
  ⟨z, M, _, rs, m, h, fun u M1 h1 v H1 ru m1 k1 => by
    have gen : (match seqT u with | some xs => r xs yes M1 | none => ∃ xs, seqL M1 u = some xs ∧ r xs (fun M => seqL M u = some xs) M1) →
        ∃ a xs, v = V.ref a ∧ ((SqL X.K H1 a xs ∧ R (Itl X.K a) H1) ∨ (SqT X.K H1 a xs ∧ R (Itt X.K a) H1)) := fun h1' => by
      cases eq : seqT u with
      | some xs =>
        rw [eq] at h1'
        obtain ⟨a, vs, ev, s, r'⟩ := seqT_of eq ru
        exact ⟨a, vs, ev, .inr ⟨s, P xs yes M1 h1' _ H1 (iters_tup s r') m1 k1.tk⟩⟩
      | none =>
        rw [eq] at h1'
        obtain ⟨xs, e1, h2⟩ := h1'
        obtain ⟨a, vs, ev, s, r'⟩ := seqL_of m1 e1 ru
        refine ⟨a, vs, ev, .inl ⟨s, P xs _ M1 h2 _ H1 (iters_list fun H2 M2 k2 m2 sd => ?_) m1 k1.tk⟩⟩
        obtain ⟨a', vs', ev', s', r2⟩ := seqL_of m2 sd (ru.keep k2)
        have ea : a = a' := by rw [ev] at ev'; exact V.ref.inj ev'
        subst ea
        exact ⟨vs', s', r2⟩
    cases u with
    | str x => exact .inr ⟨x, rstr ru, P _ yes M1 h1.q _ H1 iters_str m1 k1.tk⟩
    | _ => exact .inl (gen h1.q)⟩
def one (us : List U) (k : U → Prop) : Prop := match us with
  | [u] => k u
  | _ => False
theorem one_inv {us : List U} {k : U → Prop} (h : one us k) : ∃ u, us = [u] ∧ k u := by
  match us, h with
  | [u], h => exact ⟨u, rfl, h⟩
def asI (u : U) (k : Int → Prop) : Prop := match u with
  | .int i => k i
  | _ => False
theorem asI_inv {u : U} {k : Int → Prop} (h : asI u k) : ∃ i, u = .int i ∧ k i := by
  cases u with
  | int i => exact ⟨i, rfl, h⟩
  | _ => exact (show False from h).elim
/-- within 62 bits -/
def w62 (i : Int) : Prop := -(2 ^ 62) ≤ i ∧ i < 2 ^ 62
def iRange (ta : TA') : TI' := fun z M r => ta z M fun us M1 => one us fun u => asI u fun j => w62 j ∧ r (rangeU 0 j.toNat) yes M1
def iRange2 (ta : TA') : TI' := fun z M r => ta z M fun us M1 => two us fun u w => asI u fun i => asI w fun j => w62 i ∧ w62 j ∧ r (rangeU i (j - i).toNat) yes M1
theorem qi_range (hm : X.mg "range" = none) (ha : QA X [a] ta) (hg : Gl X "range" := by rfl) (hs : starEach [a] X.env = [(false, eval a X.env)] := by rfl) : QI X tg (.Call (.Name "range" p) [a] [] pos) (iRange ta) := imI (pi_range1 hg hm ha hs) fun σ H R ⟨z, M, r, rs, m, h, P⟩ =>
  ⟨z, M, _, rs, m, h, fun us M1 h1 vs H1 rv m1 k1 => by
    obtain ⟨u, rfl, h2⟩ := one_inv h1
    obtain ⟨j, rfl, ⟨b1, b2⟩, h3⟩ := asI_inv h2
    simp only [RepL] at rv
    obtain ⟨v, r1, rfl, q1, rfl⟩ := rv
    exact ⟨j, by rw [rint q1], b1, b2, P _ _ M1 h3 _ H1 iters_range m1 k1.tk⟩⟩
theorem qi_range2 (hm : X.mg "range" = none) (ha : QA X [a, b] ta) (hg : Gl X "range" := by rfl) (hs : starEach [a, b] X.env = [(false, eval a X.env), (false, eval b X.env)] := by rfl) (hs2 : starEach [b] X.env = [(false, eval b X.env)] := by rfl) :
    QI X tg (.Call (.Name "range" p) [a, b] [] pos) (iRange2 ta) := imI (pi_range2 hg hm ha hs hs2) fun σ H R ⟨z, M, r, rs, m, h, P⟩ =>
  ⟨z, M, _, rs, m, h, fun us M1 h1 vs H1 rv m1 k1 => by
    obtain ⟨u, w, rfl, h2⟩ := two_inv h1
    obtain ⟨i, rfl, h3⟩ := asI_inv h2
    obtain ⟨j, rfl, ⟨b1, b2⟩, ⟨b3, b4⟩, h4⟩ := asI_inv h3
    simp only [RepL] at rv
    obtain ⟨v, r1, rfl, q1, w, r2, rfl, q2, rfl⟩ := rv
    exact ⟨i, j, by rw [rint q1, rint q2], ⟨b1, b2, b3, b4⟩, P _ _ M1 h4 _ H1 iters_range m1 k1.tk⟩⟩
/-- pairs with their places: tuples that are new -/
def enumU (xs : List U) : List U := (xs.zipIdx).map fun p => .tup [.int (p.2 : Nat), p.1]
theorem enumU_len (xs : List U) : (enumU xs).length = xs.length := by simp [enumU]
theorem enumU_get {xs : List U} {i : Nat} {x : U} (h : (enumU xs)[i]? = some x) : ∃ y, xs[i]? = some y ∧ x = .tup [.int (i : Nat), y] := by
  unfold enumU at h
  rw [List.getElem?_map, List.getElem?_zipIdx] at h
  cases e : xs[i]? with
  | none => rw [e] at h; simp at h
  | some y => rw [e] at h; exact ⟨y, rfl, by simpa using h.symm⟩
def iEnum (ta : TA') : TI' := fun z M r => ta z M fun us M1 => one us fun u => ∃ xs, seqL M1 u = some xs ∧ r (enumU xs) (fun M => seqL M u = some xs) M1
theorem qi_enum {elts : List Expr} {kk : Nat} {tpos : Pos} (hm : X.mg "enumerate" = none) (ha : QA X [e] ta) (hg : Gl X "enumerate" := by rfl) (hs : starEach [e] X.env = [(false, eval e X.env)] := by rfl) :
    QI X (.Tuple elts kk tpos) (.Call (.Name "enumerate" p) [e] [] pos) (iEnum ta) := imI (pi_enum hg hm ha hs) fun σ H R ⟨z, M, r, rs, m, h, P⟩ =>
  ⟨z, M, _, rs, m, h, fun us M1 h1 vs H1 rv m1 k1 => by
    obtain ⟨u, rfl, xs, e1, h2⟩ := one_inv h1
    simp only [RepL] at rv
    obtain ⟨v, r1, rfl, ru, rfl⟩ := rv
    obtain ⟨a, ws, rfl, s, r'⟩ := seqL_of m1 e1 ru
    refine ⟨a, ws, rfl, s, P _ _ M1 h2 _ H1 (fun i H2 M2 k2 m2 sd => ?_) m1 k1.tk⟩
    obtain ⟨a', ws', ev', s', r2⟩ := seqL_of m2 sd (ru.keep k2)
    have ea := V.ref.inj ev'
    subst ea
    refine ⟨fun x hx => ?_, fun hl => ⟨ws', s', by rw [← r2.len, ← enumU_len]; exact hl⟩⟩
    obtain ⟨y, hy, rfl⟩ := enumU_get hx
    obtain ⟨v, hv, rv⟩ := r2.get hy
    refine ⟨⟨ws', v, s', hv⟩, fun v' H' yl => ?_⟩
    obtain ⟨T, x', ev, hT, eH, yy⟩ := yl
    subst ev eH
    have e2 := (yy ws' s').symm.trans hv
    cases e2
    refine ⟨?_, m2.hid hT, .new hT⟩
    simp only [Rep]
    exact ⟨T, _, rfl, .of upd_same, .cons .i (.cons (rv.keep (.new hT)) .nil)⟩⟩
end
end L3

set_option Elab.async false
set_option linter.all false
set_option maxRecDepth 100000
set_option maxHeartbeats 4000000
namespace L3
open PySem PySem.Spec L2
open PyProof.Rows hiding St
/-! ### list comprehensions -/
def wipeS (z : SL) : List Nat → SL
  | [] => z
  | v :: vs => setS (wipeS z vs) v none
theorem RS.wipe {K : Frag} {H : Hp} {σ : L2.St} {z : SL} (h : RS K H σ z) : ∀ vs, RS K H (L2.wipe σ vs) (wipeS z vs)
  | [] => h
  | _ :: vs => (RS.wipe h vs).clr
theorem wipe_in {σ : L2.St} {i : Nat} (hi : i < σ.length) : ∀ {vs : List Nat}, i ∈ vs → (L2.wipe σ vs)[i]? = some none
  | [], h => by simp at h
  | v :: vs, h => by
    unfold L2.wipe
    by_cases e : v = i
    · subst e
      rw [List.getElem?_set_self (by rw [L2.wipe_length]; exact hi)]
    · rw [List.getElem?_set_ne e]
      exact wipe_in hi (by simpa [Ne.symm e] using h)
theorem wipe_set {σ : L2.St} {i : Nat} {o : Option V} {vs : List Nat} (h : i ∈ vs) : L2.wipe (σ.set i o) vs = L2.wipe σ vs := by
  apply List.ext_getElem?
  intro j
  by_cases hj : j < σ.length
  · by_cases hv : j ∈ vs
    · rw [wipe_in hj hv, wipe_in (by rw [List.length_set]; exact hj) hv]
    · rw [L2.wipe_out hv, L2.wipe_out hv, List.getElem?_set_ne (fun e => hv (by rw [← e]; exact h))]
  · rw [List.getElem?_eq_none (by rw [L2.wipe_length, List.length_set]; omega), List.getElem?_eq_none (by rw [L2.wipe_length]; omega)]
def lowV (K : Frag) (vs : List Nat) (t : TG') : TG := fun v σ H Q => ∃ u z M q, Rep K H u v ∧ RS K H σ z ∧ RM K H M ∧ t u z M q ∧ PostS K H M q (fun σ' H' => L2.wipe σ' vs = L2.wipe σ vs → Q σ' H')
def lowVs (K : Frag) (ws : List Nat) (t : TGs') : TGs := fun vs σ H Q => ∃ us z M q, RepL K H us vs ∧ RS K H σ z ∧ RM K H M ∧ t us z M q ∧ PostS K H M q (fun σ' H' => L2.wipe σ' ws = L2.wipe σ ws → Q σ' H')
def QV (X : Cx) (vs : List Nat) (e : Expr) (t : TG') : Prop := PG X e (lowV X.K vs t)
def QVs (X : Cx) (vs : List Nat) (es : List Expr) (t : TGs') : Prop := PGs X es (lowVs X.K vs t)
section
variable {X : Cx} {pos : Pos} {vs : List Nat}
theorem qv_name {i : Nat} {x : Str} (hN : X.N.Nodup) (hi : X.N[i]? = some x := by rfl) (hv : i ∈ vs := by decide) (hx : Loc X.env.scope x := by first | exact Or.inl rfl | exact Or.inr rfl)
    (hf : X.fn x = true ∨ X.env.scope.names.lookup x = some .local := by first | exact .inl rfl | exact .inr rfl | assumption) : QV X vs (.Name x pos) (gN i) := imG (pg_name hN hi hx hf) fun v σ H Q ⟨u, z, M, q, r, rs, m, h, P⟩ =>
  P _ M h _ H (rs.set r) m (.refl H M) (wipe_set hv)
theorem qvs_nil : QVs X vs [] gsNil := imGs pgs_nil fun v σ H Q ⟨us, z, M, q, r, rs, m, h, P⟩ => by
  cases us with
  | nil => simp only [RepL] at r; exact ⟨r, P z M h σ H rs m (.refl H M) rfl⟩
  | cons _ _ => exact (show False from h).elim
theorem qvs_cons {e : Expr} {es : List Expr} {t : TG'} {r : TGs'} (h1 : QV X vs e t) (h2 : QVs X vs es r) (hs : (assignEach (e :: es) X.env).map (·.2) = assign e X.env :: (assignEach es X.env).map (·.2) := by rfl) : QVs X vs (e :: es) (gsCons t r) :=
  imGs (pgs_cons h1 h2 hs) fun v σ H Q ⟨us, z, M, q, rr, rs, m, h, P⟩ => by
    cases us with
    | nil => exact (show False from h).elim
    | cons u us =>
      simp only [RepL] at rr
      obtain ⟨x, xs, rfl, r1, r2⟩ := rr
      exact ⟨x, xs, rfl, u, z, M, _, r1, rs, m, h, fun z1 M1 q1 σ1 H1 rs1 m1 k1 e1 => ⟨us, z1, M1, q, r2.keep k1.tk, rs1, m1, q1, fun z2 M2 q2 σ2 H2 rs2 m2 k2 e2 => P z2 M2 q2 σ2 H2 rs2 m2 (k1.trans k2) (e2.trans e1)⟩⟩
theorem qv_tup {es : List Expr} {k : Nat} {t : TGs'} {n : Nat} (hc : X.calm = true) (h : QVs X vs es t) (hn : (assignEach es X.env).length = n := by rfl) (hst : (assignEach es X.env).findIdx? (·.1) = none := by rfl) : QV X vs (.Tuple es k pos) (gTuple n t) :=
  imG (PG.or (pg_tup hc h hn hst) (pg_unl hc h hn hst)) fun v σ H Q ⟨u, z, M, q, r, rs, m, w, P⟩ => by
    have w' : (match seqT u with | some xs => xs.length = n ∧ t xs z M q | none => ∃ xs, seqL M u = some xs ∧ xs.length = n ∧ t xs z M q) := w.h
    cases e : seqT u with
    | some xs =>
      rw [e] at w'
      obtain ⟨a, vs, ev, s, r'⟩ := seqT_of e r
      exact .inl ⟨a, vs, ev, s, by rw [← r'.len]; exact w'.1, xs, z, M, q, r', rs, m, w'.2, P⟩
    | none =>
      rw [e] at w'
      obtain ⟨xs, e1, l, w1⟩ := w'
      obtain ⟨a, vs, ev, s, r'⟩ := seqL_of m e1 r
      exact .inr ⟨a, vs, ev, s, by rw [← r'.len]; exact l, xs, z, M, q, r', rs, m, w1, P⟩
end
def tYes' : TT' := fun _ M q => q true M
/-- D: the list that grows; W by the turn, what is told so far, and what stands (D with it) -/
structure lcQ (g : TG') (tt : TT') (te : TE') (vs : List Nat) (z : SL) (q : QK) (xs : List U) (side : Mp → Prop) (M1 : Mp) : Prop where
  h : ∀ D, M1 D = none → ∃ W : Nat → List U → Mp → Prop, W 0 [] (put M1 D (.lst [])) ∧ (∀ i acc M, W i acc M → side M) ∧
  (∀ (i : Nat) x acc M, xs[i]? = some x → W i acc M → g x (wipeS z vs) M fun z2 M2 => tt z2 M2 fun b M3 => ifB b (te z2 M3 fun y M4 => M4 D = some (.lst acc) ∧ acc.length < sizeLine ∧ W (i + 1) (acc ++ [y]) (put M4 D (.lst (acc ++ [y])))) (W (i + 1) acc M3)) ∧
  ∀ acc M, W xs.length acc M → (M D = some (.lst acc) ∧ q (.lst acc) (drp M D)) ∨ q (.ref D) M
def eLc (it : TI') (g : TG') (tt : TT') (te : TE') (vs : List Nat) : TE' := fun z M q => it z M fun xs side M1 => lcQ g tt te vs z q xs side M1
/-- a test of a comprehension -/
def QTs (X : Cx) (ifs : List Expr) (t : TT') : Prop := PTs X ifs (lowT X.K t)
theorem qts_nil {X : Cx} : QTs X [] tYes' := ⟨fun pins s σ H Q I ⟨z, M, q, rs, m, h, P⟩ => pts_nil.run pins s σ H Q I (P true M h H m (.refl H M))⟩
theorem qts_one {X : Cx} {c : Expr} {t : TT'} (h : QT X c t) : QTs X [c] t := pts_one h
/-- what is written at a list's place -/
theorem RM.wrL {K : Frag} {H : Hp} {M : Mp} {a : Addr} {vs ws : List V} {xs : List U} (m : RM K H M) (e : H a = some (.lst vs)) (r : RepL K H xs ws) : RM K (upd H a (.lst ws)) (put M a (.lst xs)) ∧ TK H (upd H a (.lst ws)) := by
  have tk : TK H (upd H a (.lst ws)) := .wr e (fun _ z => nomatch z) fun _ _ z => nomatch z
  refine ⟨fun b o eb => ?_, tk⟩
  by_cases z : b = a
  · rw [z, put_same] at eb
    cases eb
    rw [z]
    exact ⟨ws, upd_same, r.keep tk⟩
  · rw [put_ne z] at eb
    exact (m b o eb).keep tk (fun u hu => by rw [upd_ne z]; exact hu) fun c hc => by rw [upd_ne (fun z => by rw [z, e] at hc; cases hc)]; exact hc
/-- a list is locked: it is its items from now on -/
theorem RM.lk {K : Frag} {H : Hp} {M : Mp} {a : Addr} {vs : List V} {xs : List U} {o : Obj} (m : RM K H M) (e : H a = some (.lst vs)) (r : RepL K H xs vs) :
    RM K (upd H a (.frz o (.lst vs))) (L3.drp M a) ∧ TK H (upd H a (.frz o (.lst vs))) ∧ Rep K (upd H a (.frz o (.lst vs))) (.lst xs) (.ref a) := by
  have tk : TK H (upd H a (.frz o (.lst vs))) := .wr e (fun _ z => nomatch z) fun _ _ z => nomatch z
  refine ⟨fun b x eb => ?_, tk, ?_⟩
  · have nb : b ≠ a := fun z => by rw [z, drp_same] at eb; cases eb
    rw [drp_ne nb] at eb
    exact (m b x eb).keep tk (fun y hy => by rw [upd_ne nb]; exact hy) fun c hc => by rw [upd_ne (fun z => by rw [z, e] at hc; cases hc)]; exact hc
  · simp only [Rep]
    exact ⟨a, vs, rfl, .inl ⟨o, upd_same⟩, r.keep tk⟩
theorem low_lc {K : Frag} {it : TI'} {g : TG'} {tt : TT'} {te : TE'} {vs : List Nat} {σ : L2.St} {H : Hp} {Q : VK} (h : lowE K (eLc it g tt te vs) σ H Q) : tLc (lowI K it) (lowV K vs g) (lowT K tt) (lowE K te) vs σ H (fz Q) := by
  obtain ⟨z, M, q, rs, m, h, P⟩ := h
  refine ⟨z, M, _, rs, m, h, ?_⟩
  intro xs side M1 h1 J H1 IJ m1 k1 D hD
  obtain ⟨W, w0, ws, wt, wd⟩ := h1.h D (m1.fresh hD)
  have kD : TK H1 (upd H1 D (.lst [])) := .new hD
  -- i, what stands; D's list is known at each turn
  refine ⟨fun i n H' => n = xs.length - i ∧ i ≤ xs.length ∧ ∃ acc M', RM K H' M' ∧ W i acc M' ∧ TK H1 H', ⟨xs.length, by simp, Nat.zero_le _, [], _, m1.new (mo := .lst []) hD ⟨[], upd_same, .nil⟩, w0, kD⟩, ?_⟩
  rintro i n H2 ⟨rfl, hi, acc, M2, m2, w2, k2⟩
  obtain ⟨j1, j2⟩ := IJ i H2 M2 k2 m2 (ws i acc M2 w2)
  by_cases hl : i < xs.length
  · obtain ⟨g1, g2⟩ := j1 xs[i] (by simp [hl])
    refine .inr ⟨g1, fun H' => ∃ acc M', RM K H' M' ∧ W (i + 1) acc M' ∧ TK H1 H', fun H' ⟨acc, M', q1, q2, q3⟩ => ⟨xs.length - (i + 1), by omega, rfl, hl, acc, M', q1, q2, q3⟩, fun v H3 y => ?_⟩
    obtain ⟨r3, m3, k3⟩ := g2 v H3 y
    have k13 : TK H1 H3 := k2.trans k3
    refine ⟨xs[i], wipeS z vs, M2, _, r3, ((rs.keep k1).keep k13).wipe vs, m3, wt i xs[i] acc M2 (by simp [hl]) w2, fun z4 M4 h4 σ4 H4 rs4 m4 k4 e4 => ⟨?_, ?_⟩⟩
    · rw [e4]
      -- the block's names are forgotten: twice is once
      have ww : ∀ (σ : L2.St) (vs : List Nat), L2.wipe (L2.wipe σ vs) vs = L2.wipe σ vs := by
        intro σ vs
        apply List.ext_getElem?
        intro j
        by_cases hj : j < σ.length
        · by_cases hv : j ∈ vs
          · rw [wipe_in hj hv, wipe_in (by rw [L2.wipe_length]; exact hj) hv]
          · rw [L2.wipe_out hv]
        · rw [List.getElem?_eq_none (by rw [L2.wipe_length, L2.wipe_length]; omega), List.getElem?_eq_none (by rw [L2.wipe_length]; omega)]
      exact ww σ vs
    · have k14 : TK H1 H4 := k13.trans k4.tk
      refine ⟨z4, M4, _, rs4, m4, h4, fun b M5 h5 H5 m5 k5 => ?_⟩
      have k15 : TK H1 H5 := k14.trans k5.tk
      cases b with
      | false => exact iteF ⟨acc, M5, m5, h5, k15⟩
      | true =>
        refine iteT ⟨z4, M5, _, rs4.keep k5.tk, m5, h5, fun u M6 h6 vu H6 ru m6 k6 => ?_⟩
        obtain ⟨eD, hz, w6⟩ := h6
        obtain ⟨vacc, e6, r6⟩ := m6 D _ eD
        obtain ⟨m7, k7⟩ := m6.wrL (xs := acc ++ [u]) e6 (r6.app (.cons ru .nil))
        exact ⟨vacc, e6, by rw [← r6.len]; exact hz, acc ++ [u], _, m7, w6, (k15.trans k6.tk).trans k7⟩
  · have e : i = xs.length := by omega
    refine .inl ⟨j2 (by omega), ?_⟩
    rcases wd acc M2 (by rw [← e]; exact w2) with ⟨eD, hq⟩ | hq
    · obtain ⟨vacc, e6, r6⟩ := m2 D _ eD
      refine .lock e6 fun o => .here ?_
      obtain ⟨m7, k7, r7⟩ := m2.lk (o := o) e6 r6
      exact P _ _ hq _ _ r7 m7 ⟨(k1.trans k2).trans k7⟩
    · exact .here (P _ _ hq _ _ .r m2 ⟨k1.trans k2⟩)
section
variable {X : Cx} {elt tg iter : Expr} {ifs : List Expr} {scope : Scope} {own : List (Str × Nat)} {pos spos : Pos} {it : TI'} {g : TG'} {tt : TT'} {te : TE'}
theorem qe_lc (hc : X.calm = true) (hN : X.N.Nodup) (hi : QI X tg iter it) (ok : BlkOk X.N X.env.scope scope own)
    (hg : ∀ (s : Shared) (H : Hp) (C : Addr) (cl : List (Str × Addr)) (fp : List Addr), QV (X.blk s H scope (compEnvC scope cl C X.env) fp) (own.map (·.2)) tg g) (ht : ∀ (s : Shared) (H : Hp) (C : Addr) (cl : List (Str × Addr)) (fp : List Addr), QTs (X.blk s H scope (compEnvC scope cl C X.env) fp) ifs tt)
    (he : ∀ (s : Shared) (H : Hp) (C : Addr) (cl : List (Str × Addr)) (fp : List Addr), QE (X.blk s H scope (compEnvC scope cl C X.env) fp) elt te) (hs : ∀ x, foldedSetIterable iter X.env x = pure x := by intro _; rfl) :
    QE X (.ListComp elt [⟨tg, iter, ifs, 0⟩] scope pos) (eLc it g tt te (own.map (·.2))) := imE (PE.fz (pe_lc (wi := lowI X.K it) (g := lowV X.K (List.map (fun p : Str × Nat => p.2) own) g) (tt := lowT X.K tt) (te := lowE X.K te) hc hN hi ok hg ht he hs)) fun _ _ _ h => low_lc h
end
end L3

set_option Elab.async false
set_option linter.all false
set_option maxRecDepth 100000
set_option maxHeartbeats 4000000
namespace L3
open PySem PySem.Spec L2
open PyProof.Rows hiding St
/-! ### data: a tree whose lists are known -/
mutual
def dT : U → Option PyData
  | .non => some .none
  | .bl b => some (.bool b)
  | .int i => some (.int i)
  | .str x => some (.str x)
  | .tup xs => (dTs xs).map .tuple
  | .kt xs => (dTs xs).map .tuple
  | .lst xs => (dTs xs).map .list
  | .ty _ => none
  | .ref _ => none
def dTs : List U → Option (List PyData)
  | [] => some []
  | x :: xs => match dT x, dTs xs with
    | some d, some ds => some (d :: ds)
    | _, _ => none
end
/-- .. or a list that may change, of such -/
def dM (M : Mp) : U → Option PyData
  | .ref a => match M a with
    | some (.lst xs) => (dTs xs).map .list
    | _ => none
  | u => dT u
mutual
theorem dT_ok {K : Frag} {H : Hp} : ∀ {u : U} {v : V} {d : PyData}, dT u = some d → Rep K H u v → Dp K H v d
  | .non, _, _, h, r => by cases h; rw [rnon r]; exact .non
  | .bl b, _, _, h, r => by cases h; rw [rbl r]; exact .bl b
  | .int i, _, _, h, r => by cases h; rw [rint r]; exact .int i
  | .str x, _, _, h, r => by cases h; rw [rstr r]; exact .str x
  | .tup xs, _, d, h, r => by
    unfold dT at h
    simp only [Rep] at r
    obtain ⟨a, vs, rfl, s, r'⟩ := r
    cases e : dTs xs with
    | none => rw [e] at h; cases h
    | some ds => rw [e] at h; cases h; exact .tup s (dTs_ok e r')
  | .kt xs, _, d, h, r => by
    unfold dT at h
    simp only [Rep] at r
    obtain ⟨a, vs, rfl, s, r'⟩ := r
    cases e : dTs xs with
    | none => rw [e] at h; cases h
    | some ds => rw [e] at h; cases h; exact .tup (.of s) (dTs_ok e r')
  | .lst xs, _, d, h, r => by
    unfold dT at h
    simp only [Rep] at r
    obtain ⟨a, vs, rfl, s, r'⟩ := r
    cases e : dTs xs with
    | none => rw [e] at h; cases h
    | some ds => rw [e] at h; cases h; exact .lst s.seq (dTs_ok e r')
  | .ty _, _, _, h, _ => by cases h
  | .ref _, _, _, h, _ => by cases h
theorem dTs_ok {K : Frag} {H : Hp} : ∀ {us : List U} {vs : List V} {ds : List PyData}, dTs us = some ds → RepL K H us vs → DpAll K H vs ds
  | [], _, _, h, r => by
    unfold dTs at h
    cases h
    simp only [RepL] at r
    subst r
    exact .nil
  | x :: xs, _, ds, h, r => by
    unfold dTs at h
    simp only [RepL] at r
    obtain ⟨v, vr, rfl, r1, r2⟩ := r
    cases e1 : dT x with
    | none => rw [e1] at h; cases h
    | some d =>
      cases e2 : dTs xs with
      | none => rw [e1, e2] at h; cases h
      | some dr => rw [e1, e2] at h; cases h; exact .cons (dT_ok e1 r1) (dTs_ok e2 r2)
end
theorem dM_ok {K : Frag} {H : Hp} {M : Mp} {u : U} {v : V} {d : PyData} (m : RM K H M) (h : dM M u = some d) (r : Rep K H u v) : Dp K H v d := by
  cases u with
  | ref a =>
    have h' : (match M a with | some (.lst xs) => (dTs xs).map PyData.list | _ => none) = some d := h
    cases e : M a with
    | none => rw [e] at h'; cases h'
    | some o =>
      rw [e] at h'
      cases o with
      | lst xs =>
        cases e2 : dTs xs with
        | none => simp only [e2] at h'; cases h'
        | some ds =>
          simp only [e2] at h'
          cases h'
          obtain ⟨vs, e1, r1⟩ := m a _ e
          rw [rref r]
          exact .lst (.of e1) (dTs_ok e2 r1)
      | _ => cases h'
  | _ => exact dT_ok h r
/-! ### == and != -/
def okD (d : PyData) : Prop := SeqAt.shaped d = true
def rEqG (f : Bool → Bool) : R2' := fun x y M q => match x with
  | .int i => match y with
    | .int j => q (.bl (f (decide (i = j)))) M
    | _ => ∃ d, dM M y = some d ∧ okD d ∧ q (.bl (f (PyData.eqv (.int i) d))) M
  | .str i => match y with
    | .str j => q (.bl (f (decide (i = j)))) M
    | _ => False
  | x => ∃ d e, dM M x = some d ∧ dM M y = some e ∧ okD d ∧ okD e ∧ q (.bl (f (PyData.eqv d e))) M
abbrev rEq : R2' := rEqG id
abbrev rNe : R2' := rEqG not
theorem okI (i : Int) : okD (.int i) := by
  unfold okD SeqAt.shaped
  simp [PyData.canLay0, PyData.depth]
section
variable {X : Cx} {pos : Pos} {a b c : Expr} {ta tb tc : TE'}
theorem low_eqG {f : Bool → Bool} {rS rD : R2} (hS : ∀ x y H Q, scal x y = true → Q (.bl (f (decide (x = y)))) H → rS x y H Q) (hD : ∀ x y d e H Q, Dp X.K H x d → Dp X.K H y e → SeqAt.shaped d = true → SeqAt.shaped e = true → Q (.bl (f (PyData.eqv d e))) H → rD x y H Q) :
    ∀ u w x y H M q Q, Rep X.K H u x → Rep X.K H w y → RM X.K H M → rEqG f u w M q → Post X.K H M q Q → rS x y H Q ∨ rD x y H Q := by
  intro u w x y H M q Q ru rw' m h P
  have gen : (∃ d e, dM M u = some d ∧ dM M w = some e ∧ okD d ∧ okD e ∧ q (.bl (f (PyData.eqv d e))) M) → rD x y H Q := fun ⟨d, e, e1, e2, o1, o2, hq⟩ =>
    hD x y d e H Q (dM_ok m e1 ru) (dM_ok m e2 rw') o1 o2 (P.val hq m .b)
  cases u with
  | int i =>
    cases w with
    | int j =>
      rw [rint ru, rint rw']
      refine .inl (hS _ _ H Q rfl ?_)
      have e : decide (V.int i = V.int j) = decide (i = j) := by simp
      rw [e]
      exact P.val h m .b
    | _ =>
      obtain ⟨d, e1, o1, hq⟩ := h
      exact .inr (hD x y _ d H Q (dM_ok (u := .int i) m rfl ru) (dM_ok m e1 rw') (okI i) o1 (P.val hq m .b))
  | str i =>
    cases w with
    | str j =>
      rw [rstr ru, rstr rw']
      refine .inl (hS _ _ H Q rfl ?_)
      have e : decide (V.str i = V.str j) = decide (i = j) := by simp
      rw [e]
      exact P.val h m .b
    | _ => exact h.elim
  | _ => exact .inr (gen h)
theorem o_eq (hu : X.A.units + 64 < cLine) : OpR X (compareOp .Eq) (lowR X.K rEq) := opU (op_eq.or (op_eqD hu)) (low_eqG (f := id) (fun x y H Q h q => ⟨h, q⟩) fun x y d e H Q h1 h2 o1 o2 q => ⟨d, e, h1, h2, o1, o2, q⟩)
theorem o_ne (hu : X.A.units + 64 < cLine) : OpR X (compareOp .NotEq) (lowR X.K rNe) := opU (op_ne.or (op_neD hu)) (low_eqG (f := not) (fun x y H Q h q => ⟨h, q⟩) fun x y d e H Q h1 h2 o1 o2 q => ⟨d, e, h1, h2, o1, o2, q⟩)
/-! ### < <= > >= of ints -/
abbrev rLt : R2' := rInt0 fun i j => .bl (decide (i < j))
abbrev rLe : R2' := rInt0 fun i j => .bl (decide (i ≤ j))
abbrev rGt : R2' := rInt0 fun i j => .bl (decide (j < i))
abbrev rGe : R2' := rInt0 fun i j => .bl (decide (j ≤ i))
theorem o_lt : OpR X (compareOp .Lt) (lowR X.K rLt) := opI0 op_lt fun _ _ _ => .b
theorem o_le : OpR X (compareOp .LtE) (lowR X.K rLe) := opI0 op_le fun _ _ _ => .b
theorem o_gt : OpR X (compareOp .Gt) (lowR X.K rGt) := opI0 op_gt fun _ _ _ => .b
theorem o_ge : OpR X (compareOp .GtE) (lowR X.K rGe) := opI0 op_ge fun _ _ _ => .b
/-! ### is None -/
def isN : U → Bool
  | .non => true
  | _ => false
theorem isN_ok {K : Frag} {H : Hp} {u : U} {v : V} (r : Rep K H u v) : decide (v = .non) = isN u := by
  cases u with
  | non => rw [rnon r]; rfl
  | bl b => rw [rbl r]; rfl
  | int i => rw [rint r]; rfl
  | str i => rw [rstr r]; rfl
  | ty i => rw [rty r]; rfl
  | ref i => rw [rref r]; rfl
  | tup xs => simp only [Rep] at r; obtain ⟨a, vs, rfl, _⟩ := r; rfl
  | kt xs => simp only [Rep] at r; obtain ⟨a, vs, rfl, _⟩ := r; rfl
  | lst xs => simp only [Rep] at r; obtain ⟨a, vs, rfl, _⟩ := r; rfl
def rIsN (f : Bool → Bool) : R2' := fun x y M q => match y with
  | .non => q (.bl (f (isN x))) M
  | _ => False
theorem o_isN : OpR X (compareOp .Is) (lowR X.K (rIsN id)) := opU op_isN fun u w x y H M q Q ru rw' m h P => by
  cases w with
  | non => exact ⟨rnon rw', by rw [isN_ok ru]; exact P.val h m .b⟩
  | _ => exact (show False from h).elim
theorem o_notN : OpR X (compareOp .IsNot) (lowR X.K (rIsN not)) := opU op_notN fun u w x y H M q Q ru rw' m h P => by
  cases w with
  | non => exact ⟨rnon rw', by rw [isN_ok ru]; exact P.val h m .b⟩
  | _ => exact (show False from h).elim
/-! ### chains -/
def eChain (r r' : R2') (ta tb tc : TE') : TE' := fun z M q => ta z M fun x M1 => tb z M1 fun y M2 => r x y M2 fun v M3 => match v with
  | .bl k => ifB k (tc z M3 fun w M4 => r' y w M4 q) (q (.bl false) M3)
  | _ => False
theorem low_chain {K : Frag} {r r' : R2'} {ta tb tc : TE'} {σ : L2.St} {H : Hp} {Q : VK} (h : lowE K (eChain r r' ta tb tc) σ H Q) : tChain (lowR K r) (lowR K r') (lowE K ta) (lowE K tb) (lowE K tc) σ H Q := by
  obtain ⟨z, M, q, rs, m, h, P⟩ := h
  refine ⟨z, M, _, rs, m, h, fun x M1 h1 vx H1 rx m1 k1 => ⟨z, M1, _, rs.keep k1.tk, m1, h1, fun y M2 h2 vy H2 ry m2 k2 => ?_⟩⟩
  refine ⟨x, y, M2, _, rx.keep k2.tk, ry, m2, h2, fun u M3 h3 v H3 rv m3 k3 => ?_⟩
  have k13 : SK H M H3 M3 := (k1.trans k2).trans k3
  cases u with
  | bl k =>
    refine ⟨k, rbl rv, ?_⟩
    cases k with
    | true => exact iteT ⟨z, M3, _, rs.keep k13.tk, m3, h3, fun w M4 h4 vw H4 rw' m4 k4 => ⟨y, w, M4, q, (ry.keep k3.tk).keep k4.tk, rw', m4, h4, P.step (k13.trans k4)⟩⟩
    | false => exact iteF ((P.step k13).val h3 m3 .b)
  | _ => exact (show False from h3).elim
theorem qe_chain {op op' : CmpOp} {r r' : R2'} (ho : OpR X (compareOp op) (lowR X.K r)) (ho' : OpR X (compareOp op') (lowR X.K r')) (ha : QE X a ta) (hb : QE X b tb) (hc : QE X c tc) (hm : lastMarks [op, op'] [b, c] = false := by with_unfolding_all rfl) :
    QE X (.Compare a [op, op'] [b, c] pos) (eChain r r' ta tb tc) := imE (pe_chain ho ho' ha hb hc hm) fun _ _ _ h => low_chain h
theorem qt_chain {op op' : CmpOp} {r r' : R2'} (ho : OpR X (compareOp op) (lowR X.K r)) (ho' : OpR X (compareOp op') (lowR X.K r')) (ha : QE X a ta) (hb : QE X b tb) (hc : QE X c tc) (hm : lastMarks [op, op'] [b, c] = false := by with_unfolding_all rfl) :
    QT X (.Compare a [op, op'] [b, c] pos) (tB' (eChain r r' ta tb tc)) := imT (pt_chain ho ho' ha hb hc hm) fun σ H Q h => tTest_mono (fun _ h => low_chain h) (low_test h)
/-! ### and, or, not -/
variable {rest : List Expr} {t u : TT'}
def tAnd' (t u : TT') : TT' := fun z M q => t z M fun k M1 => ifB k (u z M1 q) (q false M1)
def tOr' (t u : TT') : TT' := fun z M q => t z M fun k M1 => ifB k (q true M1) (u z M1 q)
def tNot' (t : TT') : TT' := fun z M q => t z M fun k M1 => q (!k) M1
theorem qw_and1 (ha : QT X a t) : QW X (.BoolOp .And [a] pos) t := pw_and1 ha
theorem qw_or1 (ha : QT X a t) : QW X (.BoolOp .Or [a] pos) t := pw_or1 ha
theorem qw_and (ha : QT X a t) (hb : QW X (.BoolOp .And (b :: rest) pos) u) : QW X (.BoolOp .And (a :: b :: rest) pos) (tAnd' t u) := imW (pw_and ha hb) fun σ H Q ⟨z, M, q, rs, m, h, P⟩ =>
  ⟨z, M, _, rs, m, h, fun k M1 h1 H1 m1 k1 => by
    cases k with
    | true => exact iteT ⟨z, M1, q, rs.keep k1.tk, m1, h1, P.step k1⟩
    | false => exact iteF (P false M1 h1 H1 m1 k1)⟩
theorem qw_or (ha : QT X a t) (hb : QW X (.BoolOp .Or (b :: rest) pos) u) : QW X (.BoolOp .Or (a :: b :: rest) pos) (tOr' t u) := imW (pw_or ha hb) fun σ H Q ⟨z, M, q, rs, m, h, P⟩ =>
  ⟨z, M, _, rs, m, h, fun k M1 h1 H1 m1 k1 => by
    cases k with
    | true => exact iteT (P true M1 h1 H1 m1 k1)
    | false => exact iteF ⟨z, M1, q, rs.keep k1.tk, m1, h1, P.step k1⟩⟩
theorem QW.pt (h : QW X a t) : QT X a t := PW.pt h
theorem qt_not (ha : QT X a t) : QT X (.UnaryOp .Not a pos) (tNot' t) := imT (pt_not ha) fun σ H Q ⟨z, M, q, rs, m, h, P⟩ =>
  ⟨z, M, _, rs, m, h, fun k M1 h1 H1 m1 k1 => P (!k) M1 h1 H1 m1 k1⟩
/-- .. as values, of bools -/
def asBl (u : U) (k : Bool → Prop) : Prop := match u with
  | .bl b => k b
  | _ => False
def eAnd (ta tb : TE') : TE' := fun z M q => ta z M fun x M1 => asBl x fun k => ifB k (tb z M1 q) (q (.bl false) M1)
def eOr (ta tb : TE') : TE' := fun z M q => ta z M fun x M1 => asBl x fun k => ifB k (q (.bl true) M1) (tb z M1 q)
def eNot (ta : TE') : TE' := fun z M q => ta z M fun x M1 => asBl x fun k => q (.bl (!k)) M1
theorem qe_one {op} (h : QE X a ta) : QE X (.BoolOp op [a] pos) ta := pe_one h
theorem qe_and (ha : QE X a ta) (hb : QE X (.BoolOp .And (b :: rest) pos) tb) : QE X (.BoolOp .And (a :: b :: rest) pos) (eAnd ta tb) := imE (pe_and ha hb) fun σ H Q ⟨z, M, q, rs, m, h, P⟩ =>
  ⟨z, M, _, rs, m, h, fun x M1 h1 v H1 r m1 k1 => by
    cases x with
    | bl k =>
      refine ⟨k, rbl r, ?_⟩
      cases k with
      | true => exact iteT ⟨z, M1, q, rs.keep k1.tk, m1, h1, P.step k1⟩
      | false => exact iteF ((P.step k1).val h1 m1 .b)
    | _ => exact (show False from h1).elim⟩
theorem qe_or (ha : QE X a ta) (hb : QE X (.BoolOp .Or (b :: rest) pos) tb) : QE X (.BoolOp .Or (a :: b :: rest) pos) (eOr ta tb) := imE (pe_or ha hb) fun σ H Q ⟨z, M, q, rs, m, h, P⟩ =>
  ⟨z, M, _, rs, m, h, fun x M1 h1 v H1 r m1 k1 => by
    cases x with
    | bl k =>
      refine ⟨k, rbl r, ?_⟩
      cases k with
      | true => exact iteT ((P.step k1).val h1 m1 .b)
      | false => exact iteF ⟨z, M1, q, rs.keep k1.tk, m1, h1, P.step k1⟩
    | _ => exact (show False from h1).elim⟩
theorem qe_not (ha : QE X a ta) : QE X (.UnaryOp .Not a pos) (eNot ta) := imE (pe_not ha) fun σ H Q ⟨z, M, q, rs, m, h, P⟩ =>
  ⟨z, M, _, rs, m, h, fun x M1 h1 v H1 r m1 k1 => by
    cases x with
    | bl k => exact ⟨k, rbl r, (P.step k1).val h1 m1 .b⟩
    | _ => exact (show False from h1).elim⟩
def eIf (t : TT') (ta tb : TE') : TE' := fun z M q => t z M fun k M1 => ifB k (ta z M1 q) (tb z M1 q)
theorem qe_ifExp (hc : QT X c t) (ha : QE X a ta) (hb : QE X b tb) : QE X (.IfExp c a b pos) (eIf t ta tb) := imE (pe_ifExp hc ha hb) fun σ H Q ⟨z, M, q, rs, m, h, P⟩ =>
  ⟨z, M, _, rs, m, h, fun k M1 h1 H1 m1 k1 => by
    cases k with
    | true => exact iteT ⟨z, M1, q, rs.keep k1.tk, m1, h1, P.step k1⟩
    | false => exact iteF ⟨z, M1, q, rs.keep k1.tk, m1, h1, P.step k1⟩⟩
/-- a value that is a bool, as a test -/
theorem qt_val (ha : QE X a ta) (he : ∀ whole, isTrue a X.env whole = (do let v ← whole; standAt a.pos; holding [v] (truthy v)) := by intro _; rfl) : QT X a (tB' ta) := imT (pt_val ha he) fun σ H Q h => low_test h
/-! ### - -/
def eNeg (ta : TE') : TE' := fun z M q => ta z M fun x M1 => asI x fun i => q (.int (-i)) M1
theorem qe_neg (ha : QE X a ta) : QE X (.UnaryOp .USub a pos) (eNeg ta) := imE (pe_un un_neg ha) fun σ H Q ⟨z, M, q, rs, m, h, P⟩ =>
  ⟨z, M, _, rs, m, h, fun x M1 h1 v H1 r m1 k1 => by
    obtain ⟨i, rfl, h2⟩ := asI_inv h1
    exact ⟨i, rint r, (P.step k1).val h2 m1 .i⟩⟩
/-! ### x += e -/
def sAug (i : Nat) (te : TE') (r : R2') : TS' := fun d z M => match getS z i with
  | some x => te z M fun y M1 => r x y M1 fun w M2 => d.nx (setS z i (some w)) M2
  | none => False
theorem qs_aug {i : Nat} {x : Str} {e : Expr} {te : TE'} {op : Operator} {r : R2'} {pos' : Pos} (hN : X.N.Nodup) (ho : OpR X (inplaceOp op) (lowR X.K r)) (he : QE X e te) (hi : X.N[i]? = some x := by rfl) (hx : Loc X.env.scope x := by first | exact Or.inl rfl | exact Or.inr rfl)
    (hf : X.fn x = true ∨ X.env.scope.names.lookup x = some .local := by first | exact .inl rfl | exact .inr rfl | assumption) : QS X (.AugAssign (.Name x pos') op e pos) (sAug i te r) := imS (ps_aug hN hi hx he ho hf) fun D σ H ⟨z, M, d, rs, m, h, P⟩ => by
  have h' : (match getS z i with | some x => te z M fun y M1 => r x y M1 fun w M2 => d.nx (setS z i (some w)) M2 | none => False) := h
  cases e : getS z i with
  | none => rw [e] at h'; exact h'.elim
  | some u =>
    rw [e] at h'
    obtain ⟨v, e1, ru⟩ := rs.at_ i u e
    refine ⟨v, e1, z, M, _, rs, m, h', fun y M1 h1 vy H1 ry m1 k1 => ⟨u, y, M1, _, ru.keep k1.tk, ry, m1, h1, fun w M2 h2 vw H2 rw' m2 k2 => ?_⟩⟩
    exact P.nx _ M2 h2 _ H2 (((rs.keep k1.tk).keep k2.tk).set rw') m2 (k1.trans k2)
theorem io_add : OpR X (inplaceOp .Add) (lowR X.K (rInt0 fun i j => .int (i + j))) := opI0 iop_add fun _ _ _ => .i
theorem io_sub : OpR X (inplaceOp .Sub) (lowR X.K rSub) := opI0 iop_sub fun _ _ _ => .i
end
end L3

set_option Elab.async false
set_option linter.all false
set_option maxRecDepth 100000
set_option maxHeartbeats 4000000
namespace L3
open PySem PySem.Spec L2
open PyProof.Rows hiding St
/-! ### dicts: what they hold -/
def dlook (kvs : List (U × U)) (k : U) : Option U := (kvs.find? fun p => decide (p.1 = k)).map (·.2)
def dput (kvs : List (U × U)) (k v : U) : List (U × U) := if (kvs.any fun p => decide (p.1 = k)) then kvs.map fun p => if p.1 = k then (p.1, v) else p else kvs ++ [(k, v)]
theorem dlook_nil (k : U) : dlook [] k = none := rfl
theorem dlook_cons (p : U × U) (kvs : List (U × U)) (k : U) : dlook (p :: kvs) k = if p.1 = k then some p.2 else dlook kvs k := by
  unfold dlook
  rw [List.find?_cons]
  by_cases h : p.1 = k
  · simp [h]
  · simp [h]
theorem keyU_inj {a b : Key} (h : keyU a = keyU b) : a = b := by
  cases a <;> cases b <;> simp [keyU] at h <;> simp [h]
theorem keyUs_inj : ∀ {a b : List Key}, a.map keyU = b.map keyU → a = b
  | [], [], _ => rfl
  | [], _ :: _, h => by simp at h
  | _ :: _, [], h => by simp at h
  | x :: xs, y :: ys, h => by
    rw [List.map_cons, List.map_cons] at h
    injection h with h1 h2
    rw [keyU_inj h1, keyUs_inj h2]
theorem keysU_inj {a b : List Key} (h : keysU a = keysU b) : a = b := by
  unfold keysU at h
  injection h with h
  exact keyUs_inj h
section
variable {K : Frag} {H : Hp} {κ : Type} [DecidableEq κ] {ku : κ → U}
theorem RepP.nil : RepP K H ku [] ([] : List (κ × V)) := ⟨rfl, by simpa using RepL.nil⟩
theorem RepP.cons {p : U × U} {kvs : List (U × U)} {e : κ × V} {l : List (κ × V)} (h1 : p.1 = ku e.1) (h2 : Rep K H p.2 e.2) (h : RepP K H ku kvs l) : RepP K H ku (p :: kvs) (e :: l) :=
  ⟨by rw [List.map_cons, List.map_cons, h1, h.1], by rw [List.map_cons, List.map_cons]; exact .cons h2 h.2⟩
theorem RepP.split {p : U × U} {kvs : List (U × U)} {l : List (κ × V)} (h : RepP K H ku (p :: kvs) l) : ∃ e r, l = e :: r ∧ p.1 = ku e.1 ∧ Rep K H p.2 e.2 ∧ RepP K H ku kvs r := by
  obtain ⟨h1, h2⟩ := h
  cases l with
  | nil => simp at h1
  | cons e r =>
    rw [List.map_cons, List.map_cons] at h1
    injection h1 with a b
    simp only [List.map_cons, RepL] at h2
    obtain ⟨v, vr, ev, q1, q2⟩ := h2
    injection ev with e1 e2
    exact ⟨e, r, rfl, a, by rw [e1]; exact q1, b, by rw [e2]; exact q2⟩
theorem RepP.nil_inv {l : List (κ × V)} (h : RepP K H ku [] l) : l = [] := by
  cases l with
  | nil => rfl
  | cons e r => simp [RepP] at h
theorem RepP.len {kvs : List (U × U)} {l : List (κ × V)} (h : RepP K H ku kvs l) : kvs.length = l.length := by
  have := congrArg List.length h.1
  simpa using this
def RepO (K : Frag) (H : Hp) : Option U → Option V → Prop
  | some u, some v => Rep K H u v
  | none, none => True
  | _, _ => False
theorem RepP.look (inj : ∀ a b, ku a = ku b → a = b) (k : κ) : ∀ {kvs : List (U × U)} {l : List (κ × V)}, RepP K H ku kvs l → RepO K H (dlook kvs (ku k)) (valV l k)
  | [], l, h => by rw [h.nil_inv]; exact True.intro
  | p :: kvs, l, h => by
    obtain ⟨e, r, rfl, h1, h2, h3⟩ := h.split
    rw [dlook_cons]
    by_cases hk : e.1 = k
    · rw [valV_pos hk, if_pos (by rw [h1, hk])]
      exact h2
    · rw [valV_neg hk, if_neg (fun z => hk (inj _ _ (h1.symm.trans z)))]
      exact h3.look inj k
theorem RepP.any (inj : ∀ a b, ku a = ku b → a = b) (k : κ) : ∀ {kvs : List (U × U)} {l : List (κ × V)}, RepP K H ku kvs l → (kvs.any fun p => decide (p.1 = ku k)) = l.any fun p => decide (p.1 = k)
  | [], l, h => by rw [h.nil_inv]; rfl
  | p :: kvs, l, h => by
    obtain ⟨e, r, rfl, h1, h2, h3⟩ := h.split
    rw [List.any_cons, List.any_cons, h3.any inj k]
    congr 1
    by_cases hk : e.1 = k
    · rw [decide_eq_true hk, decide_eq_true (by rw [h1, hk])]
    · rw [decide_eq_false hk, decide_eq_false (fun z => hk (inj _ _ (h1.symm.trans z)))]
theorem RepP.repl (inj : ∀ a b, ku a = ku b → a = b) (k : κ) {u : U} {v : V} (r : Rep K H u v) : ∀ {kvs : List (U × U)} {l : List (κ × V)}, RepP K H ku kvs l →
    RepP K H ku (kvs.map fun p => if p.1 = ku k then (p.1, u) else p) (l.map fun p => if p.1 = k then (p.1, v) else p)
  | [], l, h => by rw [h.nil_inv]; exact .nil
  | p :: kvs, l, h => by
    obtain ⟨e, r', rfl, h1, h2, h3⟩ := h.split
    rw [List.map_cons, List.map_cons]
    have t := h3.repl inj k r
    by_cases hk : e.1 = k
    · rw [if_pos hk, if_pos (by rw [h1, hk])]
      exact .cons h1 r t
    · rw [if_neg hk, if_neg (fun z => hk (inj _ _ (h1.symm.trans z)))]
      exact .cons h1 h2 t
theorem RepP.app {kvs : List (U × U)} {l : List (κ × V)} {p : U × U} {e : κ × V} (h : RepP K H ku kvs l) (h1 : p.1 = ku e.1) (h2 : Rep K H p.2 e.2) : RepP K H ku (kvs ++ [p]) (l ++ [e]) :=
  ⟨by rw [List.map_append, List.map_append, h.1]; simp [h1], by rw [List.map_append, List.map_append]; exact h.2.app (.cons h2 .nil)⟩
theorem RepP.put (inj : ∀ a b, ku a = ku b → a = b) (k : κ) {u : U} {v : V} (r : Rep K H u v) {kvs : List (U × U)} {l : List (κ × V)} (h : RepP K H ku kvs l) : RepP K H ku (dput kvs (ku k) u) (putK l k v) := by
  unfold dput putK
  rw [h.any inj k]
  split
  · exact h.repl inj k r
  · exact h.app (p := (ku k, u)) (e := (k, v)) rfl r
end
end L3

set_option Elab.async false
set_option linter.all false
set_option maxRecDepth 100000
set_option maxHeartbeats 4000000
namespace L3
open PySem PySem.Spec L2
open PyProof.Rows hiding St
/-! ### keys -/
def flatK : U → Bool
  | .int _ => true
  | .str _ => true
  | _ => false
/-- what may be a key of a dict: tk: of tuples -/
def isKey : Bool → U → Bool
  | false, u => flatK u
  | true, .kt xs => xs.all flatK
  | true, _ => false
theorem flatK_key {u : U} (h : flatK u = true) : ∃ k, u = keyU k := by
  cases u with
  | int i => exact ⟨.inl i, rfl⟩
  | str s => exact ⟨.inr s, rfl⟩
  | _ => cases h
theorem flatKs_key : ∀ {us : List U}, us.all flatK = true → ∃ ks : List Key, us = ks.map keyU
  | [], _ => ⟨[], rfl⟩
  | u :: us, h => by
    rw [List.all_cons, Bool.and_eq_true] at h
    obtain ⟨k, rfl⟩ := flatK_key h.1
    obtain ⟨ks, rfl⟩ := flatKs_key h.2
    exact ⟨k :: ks, rfl⟩
section
variable {K : Frag} {H : Hp} {M : Mp} {a : Addr} {lk tk : Bool} {kvs : List (U × U)} {u k : U} {v y : V}
theorem rep_key {k : Key} (r : Rep K H (keyU k) v) : v = kV k := by
  cases k with
  | inl i => exact rint r
  | inr s => exact rstr r
theorem repL_keys : ∀ {ks : List Key} {vs : List V}, RepL K H (ks.map keyU) vs → vs = ks.map kV
  | [], vs, r => by simpa only [List.map_nil, RepL] using r
  | k :: ks, vs, r => by
    simp only [List.map_cons, RepL] at r
    obtain ⟨v, vr, rfl, r1, r2⟩ := r
    rw [rep_key r1, repL_keys r2, List.map_cons]
theorem RdL.rd {H : Hp} {a : Addr} {o : HO} (h : RdL lk H a o) : Rd H a o := by
  unfold RdL at h
  cases lk
  · rw [if_neg Bool.false_ne_true] at h; exact .inl h
  · rw [if_pos rfl] at h; exact .inr h
/-- what a dict tells of a key -/
theorem dget_of (m : RM K H M) (e : M a = some (.dic tk lk kvs)) (hk : isKey tk k = true) (r : Rep K H k y) : ∃ o, DGet H a y o ∧ RepO K H (dlook kvs k) o := by
  cases tk with
  | false =>
    obtain ⟨k', rfl⟩ := flatK_key hk
    obtain ⟨l, hl, rp⟩ := m a _ e
    rw [rep_key r]
    exact ⟨_, .inl ⟨l, k', hl.rd, rfl, rfl⟩, rp.look (fun _ _ => keyU_inj) k'⟩
  | true =>
    cases k with
    | kt xs =>
      obtain ⟨ks, rfl⟩ := flatKs_key (show xs.all flatK = true from hk)
      obtain ⟨l, hl, rp⟩ := m a _ e
      simp only [Rep] at r
      obtain ⟨b, vs, rfl, hb, rv⟩ := r
      rw [repL_keys rv] at hb
      exact ⟨_, .inr ⟨l, ks, b, hl.rd, rfl, hb, rfl⟩, rp.look (fun _ _ => keysU_inj) ks⟩
    | _ => cases hk
theorem RM.wrD {o : HO} {mo : MO} {u : HO} (m : RM K H M) (e : H a = some u) (h1 : ∀ xs, u ≠ .tup xs) (h2 : ∀ o x, u ≠ .frz o x) (h3 : ∀ x, u ≠ .own x) (r : RO K (upd H a o) a mo) : RM K (upd H a o) (put M a mo) ∧ TK H (upd H a o) := by
  have tk : TK H (upd H a o) := .wr e h1 h2
  refine ⟨fun b x eb => ?_, tk⟩
  by_cases z : b = a
  · rw [z, put_same] at eb
    cases eb
    rw [z]
    exact r
  · rw [put_ne z] at eb
    exact (m b x eb).keep tk (fun u hu => by rw [upd_ne z]; exact hu) fun c hc => by rw [upd_ne (fun z => by rw [z, e] at hc; cases hc; exact h3 _ rfl)]; exact hc
/-- d[k] = u -/
theorem dput_of (m : RM K H M) (e : M a = some (.dic tk false kvs)) (hk : isKey tk k = true) (hz : kvs.length < sizeLine) (r : Rep K H k y) (rv : Rep K H u v) : ∃ H', DPut H a y v H' ∧ RM K H' (put M a (.dic tk false (dput kvs k u))) ∧ TK H H' := by
  cases tk with
  | false =>
    obtain ⟨k', rfl⟩ := flatK_key hk
    obtain ⟨l, hl, rp⟩ := m a _ e
    rw [rep_key r]
    have hl' : H a = some (.dK l) := hl
    have tkk : TK H (upd H a (.dK (putK l k' v))) := .wr hl' (fun _ z => nomatch z) fun _ _ z => nomatch z
    exact ⟨_, .inl ⟨l, k', hl', rfl, by rw [← rp.len]; exact hz, rfl⟩, m.wrD hl' (fun _ z => nomatch z) (fun _ _ z => nomatch z) (fun _ z => nomatch z) ⟨_, upd_same, (rp.put (fun _ _ => keyU_inj) k' rv).keep tkk⟩⟩
  | true =>
    cases k with
    | kt xs =>
      obtain ⟨ks, rfl⟩ := flatKs_key (show xs.all flatK = true from hk)
      obtain ⟨l, hl, rp⟩ := m a _ e
      have hl' : H a = some (.dT l) := hl
      simp only [Rep] at r
      obtain ⟨b, vs, rfl, hb, rv'⟩ := r
      rw [repL_keys rv'] at hb
      have tkk : TK H (upd H a (.dT (putK l ks v))) := .wr hl' (fun _ z => nomatch z) fun _ _ z => nomatch z
      exact ⟨_, .inr ⟨l, ks, b, hl', rfl, hb, by rw [← rp.len]; exact hz, rfl⟩, m.wrD hl' (fun _ z => nomatch z) (fun _ _ z => nomatch z) (fun _ z => nomatch z) ⟨_, upd_same, (rp.put (fun _ _ => keysU_inj) ks rv).keep tkk⟩⟩
    | _ => cases hk
end
/-! ### subscripts -/
def asL (M : Mp) (a : Addr) (k : List U → Prop) (d : Bool → Bool → List (U × U) → Prop) : Prop := match M a with
  | some (.lst xs) => k xs
  | some (.dic tk lk kvs) => d tk lk kvs
  | _ => False
theorem asL_inv {M : Mp} {a : Addr} {k : List U → Prop} {d : Bool → Bool → List (U × U) → Prop} (h : asL M a k d) : (∃ xs, M a = some (.lst xs) ∧ k xs) ∨ ∃ tk lk kvs, M a = some (.dic tk lk kvs) ∧ d tk lk kvs := by
  unfold asL at h
  cases e : M a with
  | none => rw [e] at h; exact h.elim
  | some o =>
    rw [e] at h
    cases o with
    | lst xs => exact .inl ⟨xs, rfl, h⟩
    | dic tk lk kvs => exact .inr ⟨tk, lk, kvs, rfl, h⟩
    | ins C fs => exact h.elim
    | exc C fs => exact h.elim
def itemQ (xs : List U) (y : U) (M : Mp) (q : QK) : Prop := asI y fun i => ∃ v, atI xs i = some v ∧ q v M
structure rIx (x y : U) (M : Mp) (q : QK) : Prop where
  h : match x with
    | .str s => asI y fun i => s.length ≤ sizeLine ∧ ∃ c, atI s.cps.toList i = some c ∧ q (.str ⟨#[c]⟩) M
    | .tup xs => itemQ xs y M q
    | .kt xs => itemQ xs y M q
    | .lst xs => itemQ xs y M q
    | .ref a => asL M a (fun xs => itemQ xs y M q) fun tk _ kvs => isKey tk y = true ∧ ∃ v, dlook kvs y = some v ∧ q v M
    | _ => False
theorem RepL.at {K : Frag} {H : Hp} {us : List U} {vs : List V} {i : Int} {u : U} (r : RepL K H us vs) (h : atI us i = some u) : ∃ v, atI vs i = some v ∧ Rep K H u v := by
  obtain ⟨j, h1, h2, h3, h4, h5⟩ := atI_get h
  obtain ⟨v, hv, rv⟩ := r.get h2
  refine ⟨v, ?_, rv⟩
  unfold atI at h ⊢
  rw [r.len] at h
  cases e : ixN vs.length i with
  | none => rw [e] at h; cases h
  | some j' =>
    have e' := ixN_seq e
    rw [r.len] at h1
    have : j' = j := Option.some.inj (e'.1.symm.trans h1)
    subst this
    exact hv
section
variable {X : Cx} {pos : Pos} {a b : Expr} {ta tb : TE'}
theorem ix_dict (hu : X.A.units + 1 < cLine) : IxR X (fun x y H Q => ∃ p v, x = .ref p ∧ DGet H p y (some v) ∧ Q v H) := by
  intro value slice pins s σ H x y v u Q I rx ry h hs
  obtain ⟨p, z, rfl, g, q⟩ := h
  cases rx
  exact tail_any (dict_typeIs I g) PySem.F.slot_dict_getitem.lookup (d_getItem hu I g ry fun w' s3 I3 rw' => ⟨z, H, I3, rw', q⟩) hs
theorem qe_ix (hu : X.A.units + 1 < cLine) (ha : QE X a ta) (hb : QE X b tb) (hs : PlainIx b := by intro _ _; rfl) : QE X (.Subscript a b pos) (eBin rIx ta tb) :=
  imE (pe_ix (ix_list.or (ix_tup.or (ix_str.or (ix_dict hu)))) ha hb hs) fun σ H Q ⟨z, M, q, rs, m, h, P⟩ => by
    refine ⟨z, M, _, rs, m, h, fun x M1 h1 vx H1 rx m1 k1 => ⟨z, M1, _, rs.keep k1.tk, m1, h1, fun y M2 h2 vy H2 ry m2 k2 => ?_⟩⟩
    have rx2 := rx.keep k2.tk
    have P2 := P.step (k1.trans k2)
    have lists : ∀ {xs : List U}, seqL M2 x = some xs → itemQ xs y M2 q → rIxL X.K vx vy H2 Q := fun {xs} e hq => by
      obtain ⟨i, rfl, v, hv, hq⟩ := asI_inv hq
      obtain ⟨p, vs, rfl, s, r⟩ := seqL_of m2 e rx2
      obtain ⟨w, hw, rw'⟩ := r.at hv
      exact ⟨p, vs, i, w, rfl, rint ry, s, hw, P2.val hq m2 rw'⟩
    have tups : ∀ {xs : List U}, seqT x = some xs → itemQ xs y M2 q → rIxT X.K vx vy H2 Q := fun {xs} e hq => by
      obtain ⟨i, rfl, v, hv, hq⟩ := asI_inv hq
      obtain ⟨p, vs, rfl, s, r⟩ := seqT_of e rx2
      obtain ⟨w, hw, rw'⟩ := r.at hv
      exact ⟨p, vs, i, w, rfl, rint ry, s, hw, P2.val hq m2 rw'⟩
    cases x with
    | str s =>
      obtain ⟨i, rfl, hz, c, hc, hq⟩ := asI_inv (show asI y fun i => s.length ≤ sizeLine ∧ ∃ c, atI s.cps.toList i = some c ∧ q (.str ⟨#[c]⟩) M2 from h2.h)
      exact .inr (.inr (.inl ⟨s, i, c, rstr rx2, rint ry, hz, hc, P2.val hq m2 .s⟩))
    | tup xs => exact .inr (.inl (tups rfl h2.h))
    | kt xs => exact .inr (.inl (tups rfl h2.h))
    | lst xs => exact .inl (lists rfl h2.h)
    | ref p =>
      rcases asL_inv (show asL M2 p _ _ from h2.h) with ⟨xs, e, hq⟩ | ⟨tk, lk, kvs, e, hk, v, hv, hq⟩
      · exact .inl (lists (by show (match M2 p with | some (.lst xs) => some xs | _ => none) = some xs; rw [e]) hq)
      · obtain ⟨o, g, ro⟩ := dget_of m2 e hk ry
        rw [hv] at ro
        cases o with
        | none => exact ro.elim
        | some w => exact .inr (.inr (.inr ⟨p, w, rref rx2, g, P2.val hq m2 ro⟩))
    | _ => exact (show False from h2.h).elim
/-- o[i] = e -/
def sPut (to ti te : TE') : TS' := fun d z M => te z M fun v M1 => to z M1 fun x M2 => ti z M2 fun y M3 => match x with
  | .ref a => asL M3 a (fun xs => asI y fun i => ∃ j, ixN xs.length i = some j ∧ d.nx z (put M3 a (.lst (xs.set j v)))) fun tk lk kvs => lk = false ∧ isKey tk y = true ∧ kvs.length < sizeLine ∧ d.nx z (put M3 a (.dic tk false (dput kvs y v)))
  | _ => False
/-- a store into a list or a dict, by values -/
theorem set_any (hu : X.A.units + 1 < cLine) : PSet X (fun o i v H Q => rSetL o i v H Q ∨ ∃ p H', o = .ref p ∧ DPut H p i v H' ∧ Q H') := by
  intro pins s σ H o i v ov iv u Q I ro ri rv h
  rcases h with h | ⟨p, H', rfl, g, q⟩
  · exact set_list pins s σ H o i v ov iv u Q I ro ri rv h
  · cases ro
    exact d_setItem hu I g ri rv fun s4 I4 => ⟨H', I4, q⟩
theorem qs_put {o i e : Expr} {to ti te : TE'} {pos' : Pos} (hu : X.A.units + 1 < cLine) (ho : QE X o to) (hi : QE X i ti) (he : QE X e te)
    (ha : ∀ v, assign (.Subscript o i pos') X.env v = (do
      let ov ← holding [v] (eval o X.env)
      let iv ← holding [v, ov] (eval i X.env)
      standAt pos'
      holding [v, ov, iv] (setItem ov iv v)
      release [v, ov, iv] []) := by intro _; rfl)
    (hs : swapsWithSole [.Subscript o i pos'] e pos.line X.env = pure false := by rfl) (hw : swappedStores [.Subscript o i pos'] e X.env = pure none := by rfl) (h1 : (assignEach [.Subscript o i pos'] X.env).map (·.2) = [assign (.Subscript o i pos') X.env] := by rfl) :
    QS X (.Assign [.Subscript o i pos'] e pos) (sPut to ti te) := imS (ps_asg he (pg_sub ho hi (set_any hu) ha) hs hw h1) fun D σ H ⟨z, M, d, rs, m, h, P⟩ => by
  refine ⟨z, M, _, rs, m, h, fun v M1 h1 vv H1 rv m1 k1 => ⟨z, M1, _, rs.keep k1.tk, m1, h1, fun x M2 h2 vx H2 rx m2 k2 => ⟨z, M2, _, (rs.keep k1.tk).keep k2.tk, m2, h2, fun y M3 h3 vy H3 ry m3 k3 => ?_⟩⟩⟩
  have k13 := (k1.trans k2).trans k3
  have rv3 := (rv.keep k2.tk).keep k3.tk
  cases x with
  | ref p =>
    rw [rref rx]
    rcases asL_inv (show asL M3 p _ _ from h3) with ⟨xs, ep, hq⟩ | ⟨tk, lk, kvs, ep, hl, hk, hz, hq⟩
    · obtain ⟨i, rfl, j, hj, hq⟩ := asI_inv hq
      obtain ⟨vs, e1, r1⟩ := m3 p _ ep
      obtain ⟨m4, k4⟩ := m3.wrL e1 (r1.set rv3 j)
      exact .inl ⟨p, vs, i, j, rfl, rint ry, e1, by rw [← r1.len]; exact hj, P.nx z _ hq σ _ ((rs.keep k13.tk).keep k4) m4 ⟨k13.tk.trans k4⟩⟩
    · subst hl
      obtain ⟨H4, g, m4, k4⟩ := dput_of m3 ep hk hz ry rv3
      exact .inr ⟨p, H4, rfl, g, P.nx z _ hq σ _ ((rs.keep k13.tk).keep k4) m4 ⟨k13.tk.trans k4⟩⟩
  | _ => exact (show False from h3).elim
/-- {} -/
def eDic0 : TE' := fun _ M q => (∀ p, M p = none → q (.ref p) (put M p (.dic false false []))) ∨ ∀ p, M p = none → q (.ref p) (put M p (.dic true false []))
theorem PE.or {e : Expr} {t t' : TE} (h : PE X e t) (h' : PE X e t') : PE X e (fun σ H Q => t σ H Q ∨ t' σ H Q) := ⟨fun pins s σ H Q I w => w.elim (h.run pins s σ H Q I) (h'.run pins s σ H Q I)⟩
theorem qe_dic0 : QE X (.Dict [] [] pos) eDic0 := imE (PE.or pe_dnewK pe_dnewT) fun σ H Q ⟨z, M, q, rs, m, h, P⟩ => by
  rcases h with h | h
  · exact .inl fun p hp => P _ _ (h p (m.fresh hp)) _ _ .r (m.new (mo := .dic false false []) hp ⟨[], upd_same, .nil⟩) (.new hp)
  · exact .inr fun p hp => P _ _ (h p (m.fresh hp)) _ _ .r (m.new (mo := .dic true false []) hp ⟨[], upd_same, .nil⟩) (.new hp)
end
end L3

set_option Elab.async false
set_option linter.all false
set_option maxRecDepth 100000
set_option maxHeartbeats 4000000
namespace L3
open PySem PySem.Spec L2
open PyProof.Rows hiding St
/-! ### built-ins called by their names -/
abbrev RC' := List U → Mp → QK → Prop
def lowC (K : Frag) (r : RC') : List V → Hp → VK → Prop := fun xs H Q => ∃ us M q, RepL K H us xs ∧ RM K H M ∧ r us M q ∧ Post K H M q Q
def eB (r : RC') (ta : TA') : TE' := fun z M q => ta z M fun us M1 => r us M1 q
section
variable {X : Cx} {x : Str} {p pos : Pos} {e : Expr} {es : List Expr} {ta : TA'} {id T : String} {r : RC'}
theorem callU {f : Value} {r0 : List V → Hp → VK → Prop} (h : CallR X f r0) (k : ∀ us xs H M q Q, RepL X.K H us xs → RM X.K H M → r us M q → Post X.K H M q Q → r0 xs H Q) : CallR X f (lowC X.K r) :=
  fun pins s σ H xs us Q I rx ⟨ws, M, q, rr, m, hq, P⟩ => h pins s σ H xs us Q I rx (k ws xs H M q Q rr m hq P)
theorem low_B {K : Frag} {σ : L2.St} {H : Hp} {Q : VK} (h : lowE K (eB r ta) σ H Q) : tCB (lowC K r) (lowA K ta) σ H Q := by
  obtain ⟨z, M, q, rs, m, h, P⟩ := h
  exact ⟨z, M, _, rs, m, h, fun us M1 h1 vs H1 r1 m1 k1 => ⟨us, M1, q, r1, m1, h1, P.step k1⟩⟩
theorem qe_B (hc : CallR X (.builtin id) (lowC X.K r)) (hm : X.mg x = none) (hv : bootBuiltins x = some (.builtin id)) (ha : QA X (e :: es) ta) (hg : Gl X x := by rfl) (hn : x ≠ "__name__" := by decide) (hdb : (x == ("__debug__" : Str)) = false := by decide)
    (he : starEach (e :: es) X.env = (false, eval e X.env) :: starEach es X.env := by rfl) (hpl : (backTo pos (starEach es X.env)).any (·.1) = false := by rfl) : QE X (.Call (.Name x p) (e :: es) [] pos) (eB r ta) :=
  imE (pe_callB hc hg hm hv ha hn hdb he hpl) fun _ _ _ h => low_B h
theorem qe_T (hc : CallR X (.type T) (lowC X.K r)) (hm : X.mg x = none) (hv : bootBuiltins x = some (.type T)) (ha : QA X (e :: es) ta) (hg : Gl X x := by rfl) (hn : x ≠ "__name__" := by decide) (hdb : (x == ("__debug__" : Str)) = false := by decide)
    (he : starEach (e :: es) X.env = (false, eval e X.env) :: starEach es X.env := by rfl) (hpl : (backTo pos (starEach es X.env)).any (·.1) = false := by rfl) : QE X (.Call (.Name x p) (e :: es) [] pos) (eB r ta) :=
  imE (pe_callTy hc hg hm hv ha hn hdb he hpl) fun _ _ _ h => low_B h
/-- a built-in class as a value -/
theorem qe_ty {n : String} (hm : X.mg x = none) (hv : bootBuiltins x = some (.type n)) (hg : Gl X x := by rfl) (hn : x ≠ "__name__" := by decide) (hd : (x == ("__debug__" : Str)) = false := by decide) : QE X (.Name x pos) (eC (.ty n)) :=
  qe_cst (pe_bltn (v := .ty n) hg hm hv rfl hn hd) fun H => by simp only [Rep]
theorem RepL.one_inv {K : Frag} {H : Hp} {u : U} {vs : List V} (h : RepL K H [u] vs) : ∃ v, vs = [v] ∧ Rep K H u v := by
  simp only [RepL] at h
  obtain ⟨v, r, rfl, h1, rfl⟩ := h
  exact ⟨v, rfl, h1⟩
theorem RepL.two_inv {K : Frag} {H : Hp} {u w : U} {vs : List V} (h : RepL K H [u, w] vs) : ∃ v y, vs = [v, y] ∧ Rep K H u v ∧ Rep K H w y := by
  simp only [RepL] at h
  obtain ⟨v, r, rfl, h1, y, r2, rfl, h2, rfl⟩ := h
  exact ⟨v, y, rfl, h1, h2⟩
/-! ### len -/
def lenU (M : Mp) : U → Option Nat
  | .str s => some s.length
  | .tup xs => some xs.length
  | .kt xs => some xs.length
  | .lst xs => some xs.length
  | .ref a => match M a with
    | some (.lst xs) => some xs.length
    | some (.dic false _ kvs) => some kvs.length
    | _ => none
  | _ => none
def rLen : RC' := fun us M q => one us fun u => ∃ n, lenU M u = some n ∧ n ≤ sizeLine ∧ q (.int (n : Nat)) M
theorem call_lenD' : CallR X (.builtin "len") (fun xs H Q => ∃ a kvs, xs = [.ref a] ∧ Rd H a (.dK kvs) ∧ Q (.int kvs.length) H) := by
  intro pins s σ H xs us Q I r h
  obtain ⟨a, kvs, rfl, e, q⟩ := h
  obtain ⟨u, rfl, r1⟩ := vals1 r
  cases r1
  exact d_len I e fun t s' I' => ⟨.int kvs.length, H, I', ⟨_, rfl⟩, q⟩
theorem c_len : CallR X (.builtin "len") (lowC X.K rLen) := callU (CallR.or call_len call_lenD') fun us xs H M q Q rr m h P => by
  obtain ⟨u, rfl, n, e, hz, hq⟩ := one_inv h
  obtain ⟨v, rfl, r⟩ := rr.one_inv
  have lst : ∀ {ys : List U}, seqL M u = some ys → ys.length = n → (∃ x n, [v] = [x] ∧ LenV X.K x H n ∧ Q (.int n) H) := fun {ys} e1 e2 => by
    obtain ⟨a, ws, rfl, s, r'⟩ := seqL_of m e1 r
    exact ⟨_, n, rfl, .inl ⟨ws, s, by rw [← r'.len, e2]⟩, P.val hq m .i⟩
  have tup : ∀ {ys : List U}, seqT u = some ys → ys.length = n → (∃ x n, [v] = [x] ∧ LenV X.K x H n ∧ Q (.int n) H) := fun {ys} e1 e2 => by
    obtain ⟨a, ws, rfl, s, r'⟩ := seqT_of e1 r
    exact ⟨_, n, rfl, .inr ⟨ws, s, by rw [← r'.len, e2]⟩, P.val hq m .i⟩
  cases u with
  | str s =>
    cases e
    rw [rstr r]
    exact .inl ⟨_, s.length, rfl, ⟨hz, rfl⟩, P.val hq m .i⟩
  | tup ys => cases e; exact .inl (tup rfl rfl)
  | kt ys => cases e; exact .inl (tup rfl rfl)
  | lst ys => cases e; exact .inl (lst rfl rfl)
  | ref a =>
    have e' : (match M a with | some (.lst xs) => some xs.length | some (.dic false _ kvs) => some kvs.length | _ => none) = some n := e
    cases em : M a with
    | none => rw [em] at e'; cases e'
    | some o =>
      rw [em] at e'
      cases o with
      | lst ys => cases e'; exact .inl (lst (ys := ys) (by show (match M a with | some (.lst xs) => some xs | _ => none) = some ys; rw [em]) rfl)
      | dic tk lk kvs =>
        cases tk with
        | true => cases e'
        | false =>
          cases e'
          obtain ⟨l, hl, rp⟩ := m a _ em
          exact .inr ⟨a, l, by rw [rref r], hl.rd, by rw [← rp.len]; exact P.val hq m .i⟩
      | ins C fs => cases e'
      | exc C fs => cases e'
  | _ => cases e
/-! ### isinstance -/
def tyN (M : Mp) : U → Option String
  | .non => some "NoneType"
  | .bl _ => some "bool"
  | .int _ => some "int"
  | .str _ => some "str"
  | .tup _ => some "tuple"
  | .kt _ => some "tuple"
  | .lst _ => some "list"
  | .ref a => match M a with
    | some (.lst _) => some "list"
    | some (.dic false _ _) => some "dict"
    | some (.dic true false _) => some "dict"
    | _ => none
  | .ty _ => none
def isTy (t n : String) : Bool := t == n || (t == "bool" && n == "int")
def okN (n : String) : Bool := ["int", "bool", "str", "list", "tuple"].contains n
def okTs : List U → Option (List String)
  | [] => some []
  | .ty n :: r => if okN n = true then (okTs r).map (n :: ·) else none
  | _ :: _ => none
theorem kit7 : ∀ t ∈ ["NoneType", "bool", "int", "str", "tuple", "list", "dict"], ∀ n ∈ ["int", "bool", "str", "list", "tuple"], kitB t n = some (isTy t n) := by decide +kernel
theorem tyN_mem {M : Mp} {u : U} {t : String} (h : tyN M u = some t) : t ∈ ["NoneType", "bool", "int", "str", "tuple", "list", "dict"] := by
  cases u with
  | ref a =>
    have h' : (match M a with | some (.lst _) => some "list" | some (.dic false _ _) => some "dict" | some (.dic true false _) => some "dict" | _ => none) = some t := h
    split at h' <;> cases h' <;> decide
  | ty n => cases h
  | _ => cases h; decide
theorem tyN_ok {K : Frag} {H : Hp} {M : Mp} {u : U} {v : V} {t : String} (m : RM K H M) (h : tyN M u = some t) (r : Rep K H u v) : TyX K H v (.type t) := by
  have lst : ∀ {ys : List U}, seqL M u = some ys → TyX K H v (.type "list") := fun {ys} e => by
    obtain ⟨a, ws, rfl, s, _⟩ := seqL_of m e r
    rcases s with (s | ⟨o, s⟩) | ⟨o, its, n, hk, hc, _⟩
    · exact .base (.lst s)
    · exact .base (.frz s)
    · exact .kList hk hc
  have tup : ∀ {ys : List U}, seqT u = some ys → TyX K H v (.type "tuple") := fun {ys} e => by
    obtain ⟨a, ws, rfl, s, _⟩ := seqT_of e r
    rcases s with (s | ⟨o, s⟩) | ⟨o, its, n, hk, hc, _⟩
    · exact .base (.tup s)
    · exact .fTuple s
    · exact .kTuple hk hc
  cases u with
  | non => cases h; rw [rnon r]; exact .base .non
  | bl b => cases h; rw [rbl r]; exact .base (.bl b)
  | int i => cases h; rw [rint r]; exact .base (.int i)
  | str s => cases h; rw [rstr r]; exact .base (.str s)
  | tup ys => cases h; exact tup rfl
  | kt ys => cases h; exact tup rfl
  | lst ys => cases h; exact lst rfl
  | ty n => cases h
  | ref a =>
    have h' : (match M a with | some (.lst _) => some "list" | some (.dic false _ _) => some "dict" | some (.dic true false _) => some "dict" | _ => none) = some t := h
    cases e : M a with
    | none => rw [e] at h'; cases h'
    | some o =>
      rw [e] at h'
      cases o with
      | lst ys => cases h'; exact lst (ys := ys) (by show (match M a with | some (.lst xs) => some xs | _ => none) = some ys; rw [e])
      | dic tk lk kvs =>
        rw [rref r]
        cases tk with
        | false =>
          cases h'
          obtain ⟨l, hl, _⟩ := m a _ e
          rcases hl.rd with q | ⟨o, q⟩
          · exact .base (.dK q)
          · exact .fDict q
        | true =>
          cases lk with
          | true => cases h'
          | false =>
            cases h'
            obtain ⟨l, hl, _⟩ := m a _ e
            exact .base (.dT hl)
      | ins C fs => cases h'
      | exc C fs => cases h'
def rIsi : RC' := fun us M q => two us fun u c => ∃ t, tyN M u = some t ∧ match c with
  | .ty n => okN n = true ∧ q (.bl (isTy t n)) M
  | .kt cs => ∃ ns, okTs cs = some ns ∧ q (.bl (ns.any (isTy t))) M
  | _ => False
theorem okN_mem {n : String} (h : okN n = true) : n ∈ ["int", "bool", "str", "list", "tuple"] := by simpa [okN] using h
theorem okTs_ok {K : Frag} {H : Hp} {t : String} (ht : t ∈ ["NoneType", "bool", "int", "str", "tuple", "list", "dict"]) : ∀ {cs : List U} {ns : List String} {vs : List V}, okTs cs = some ns → RepL K H cs vs →
    Paired ClsV vs (ns.map Value.type) ∧ PySem.W.kitAny K (.type t) (ns.map Value.type) = some (ns.any (isTy t))
  | [], ns, vs, h, r => by
    cases h
    simp only [RepL] at r
    subst r
    exact ⟨.nil, rfl⟩
  | .ty n :: cs, ns, vs, h, r => by
    have h' : (if okN n = true then (okTs cs).map (n :: ·) else none) = some ns := h
    split at h'
    · rename_i hn
      cases e : okTs cs with
      | none => rw [e] at h'; cases h'
      | some ms =>
        rw [e] at h'
        cases h'
        simp only [RepL] at r
        obtain ⟨v, vr, rfl, r1, r2⟩ := r
        obtain ⟨q1, q2⟩ := okTs_ok ht e r2
        rw [rty r1]
        refine ⟨.cons (.ty n) q1, ?_⟩
        refine kitAny_cons (b := isTy t n) (kit_ty (kit7 t ht n (okN_mem hn))) (fun hb => ?_) fun hb => ?_
        · rw [List.any_cons, hb]; exact q2
        · rw [List.any_cons, hb]; rfl
    · cases h'
  | .non :: _, _, _, h, _ => by cases h
  | .bl _ :: _, _, _, h, _ => by cases h
  | .int _ :: _, _, _, h, _ => by cases h
  | .str _ :: _, _, _, h, _ => by cases h
  | .ref _ :: _, _, _, h, _ => by cases h
  | .tup _ :: _, _, _, h, _ => by cases h
  | .kt _ :: _, _, _, h, _ => by cases h
  | .lst _ :: _, _, _, h, _ => by cases h
theorem c_isi : CallR X (.builtin "isinstance") (lowC X.K rIsi) := callU (CallR.or call_isi call_isiT) fun us xs H M q Q rr m h P => by
  obtain ⟨u, c, rfl, t, ht, hq⟩ := two_inv h
  obtain ⟨v, y, rfl, r1, r2⟩ := rr.two_inv
  cases c with
  | ty n => exact .inl ⟨v, y, .type t, .type n, isTy t n, rfl, by rw [rty r2]; exact .ty n, tyN_ok m ht r1, kit_ty (kit7 t (tyN_mem ht) n (okN_mem hq.1)), P.val hq.2 m .b⟩
  | kt cs =>
    obtain ⟨ns, hn, hq⟩ := hq
    simp only [Rep] at r2
    obtain ⟨a, vs, rfl, ha, rv⟩ := r2
    obtain ⟨q1, q2⟩ := okTs_ok (K := X.K) (tyN_mem ht) hn rv
    exact .inr ⟨v, a, vs, .type t, ns.map Value.type, _, rfl, ha, q1, tyN_ok m ht r1, q2, P.val hq m .b⟩
  | _ => exact (show False from hq).elim
/-! ### min, max of two ints; int, str; abs -/
def rTwoI (g : Int → Int → Int) : RC' := fun us M q => two us fun u w => asI u fun i => asI w fun j => q (.int (g i j)) M
theorem c_min2 (hc : X.calm = true) : CallR X (.builtin "min") (lowC X.K (rTwoI fun i j => if j < i then j else i)) := callU (call_min2 hc) fun us xs H M q Q rr m h P => by
  obtain ⟨u, w, rfl, h⟩ := two_inv h
  obtain ⟨i, rfl, h⟩ := asI_inv h
  obtain ⟨j, rfl, h⟩ := asI_inv h
  obtain ⟨v, y, rfl, r1, r2⟩ := rr.two_inv
  exact ⟨i, j, by rw [rint r1, rint r2], P.val h m .i⟩
theorem c_max2 (hc : X.calm = true) : CallR X (.builtin "max") (lowC X.K (rTwoI fun i j => if j > i then j else i)) := callU (call_max2 hc) fun us xs H M q Q rr m h P => by
  obtain ⟨u, w, rfl, h⟩ := two_inv h
  obtain ⟨i, rfl, h⟩ := asI_inv h
  obtain ⟨j, rfl, h⟩ := asI_inv h
  obtain ⟨v, y, rfl, r1, r2⟩ := rr.two_inv
  exact ⟨i, j, by rw [rint r1, rint r2], P.val h m .i⟩
def rStrI : RC' := fun us M q => one us fun u => asI u fun i => i.natAbs.log2 < 1920 ∧ q (.str (toString i)) M
theorem c_str : CallR X (.type "str") (lowC X.K rStrI) := callU call_str_int fun us xs H M q Q rr m h P => by
  obtain ⟨u, rfl, h⟩ := one_inv h
  obtain ⟨i, rfl, hz, h⟩ := asI_inv h
  obtain ⟨v, rfl, r⟩ := rr.one_inv
  exact ⟨i, by rw [rint r], hz, P.val h m .s⟩
end
/-! ### list(..), tuple(..) -/
section
variable {X : Cx}
/-- the items of a list or a tuple -/
def seqA (M : Mp) (u : U) : Option (List U) := match seqT u with
  | some xs => some xs
  | none => seqL M u
theorem seqA_of {K : Frag} {H : Hp} {M : Mp} {u : U} {v : V} {xs : List U} (m : RM K H M) (h : seqA M u = some xs) (r : Rep K H u v) : ∃ a vs, v = .ref a ∧ (SqL K H a vs ∨ SqT K H a vs) ∧ RepL K H xs vs := by
  unfold seqA at h
  cases e : seqT u with
  | some ys =>
    rw [e] at h
    cases h
    obtain ⟨a, vs, h1, h2, h3⟩ := seqT_of e r
    exact ⟨a, vs, h1, .inr h2, h3⟩
  | none =>
    rw [e] at h
    obtain ⟨a, vs, h1, h2, h3⟩ := seqL_of m h r
    exact ⟨a, vs, h1, .inl h2, h3⟩
def rList : RC' := fun us M q => one us fun u => ∃ xs, seqA M u = some xs ∧ newL xs M q
theorem c_list : CallR X (.type "list") (lowC X.K rList) := callU (CallR.fz call_list_of) fun us xs H M q Q rr m h P => by
  obtain ⟨u, rfl, ys, e, h⟩ := one_inv h
  obtain ⟨v, rfl, r⟩ := rr.one_inv
  obtain ⟨a, vs, rfl, s, r'⟩ := seqA_of m e r
  exact ⟨a, vs, rfl, s, fun l hl => newL_ok m r' h P hl⟩
/-- a tuple of a list is new; of a tuple it's that one -/
def rTuple : RC' := fun us M q => one us fun u => ∃ xs, seqA M u = some xs ∧ q (.tup xs) M
theorem c_tuple : CallR X (.type "tuple") (lowC X.K rTuple) := callU call_tuple_of fun us xs H M q Q rr m h P => by
  obtain ⟨u, rfl, ys, e, h⟩ := one_inv h
  obtain ⟨v, rfl, r⟩ := rr.one_inv
  obtain ⟨a, vs, rfl, s, r'⟩ := seqA_of m e r
  refine ⟨a, vs, rfl, ?_⟩
  rcases s with s | s
  · exact .inl ⟨s, fun l hl => newT_ok m r' (.inl h) P hl⟩
  · exact .inr ⟨s, P.val h m (by simp only [Rep]; exact ⟨a, vs, rfl, s, r'⟩)⟩
end
/-! ### methods of built-in things -/
abbrev RM' := U → List U → Mp → QK → Prop
def lowM (K : Frag) (r : RM') : V → List V → Hp → VK → Prop := fun x xs H Q => ∃ u us M q, Rep K H u x ∧ RepL K H us xs ∧ RM K H M ∧ r u us M q ∧ Post K H M q Q
def eM (ok : U → Mp → Prop) (r : RM') (to : TE') (ta : TA') : TE' := fun z M q => to z M fun x M1 => ok x M1 ∧ ta z M1 fun us M2 => r x us M2 q
section
variable {X : Cx} {o e : Expr} {es : List Expr} {to : TE'} {ta : TA'} {name : Str} {apos cpos : Pos} {T id : String} {r : RM'} {ok : U → Mp → Prop}
theorem mthU {r0 : V → List V → Hp → VK → Prop} (h : MtR X id r0) (k : ∀ u us x xs H M q Q, Rep X.K H u x → RepL X.K H us xs → RM X.K H M → r u us M q → Post X.K H M q Q → r0 x xs H Q) : MtR X id (lowM X.K r) :=
  fun pins s σ H x xs v us Q I rx rs ⟨u, ws, M, q, ru, rr, m, hq, P⟩ => h pins s σ H x xs v us Q I rx rs (k u ws x xs H M q Q ru rr m hq P)
theorem qe_bm (pa : PlainAttrs T) (slot : Slot T name id) (hty : typeOf (.builtin id) = pure (.type "method_descriptor")) (hm : MtR X id (lowM X.K r)) (hok : ∀ u x H M, Rep X.K H u x → RM X.K H M → ok u M → tyV X.K T x H) (ho : QE X o to) (ha : QA X (e :: es) ta)
    (hbase : attributeBase o name X.env (eval o X.env) = eval o X.env := by rfl)
    (hfew : ((backTo cpos (starEach (e :: es) X.env)).all (fun x => !x.1) && (backToKw cpos (keywordEach [] X.env)).all (fun x => x.1.isSome)
      && decide ((e :: es).length + ([] : List Keyword).length + (if ([] : List Keyword).isEmpty then 0 else 1) < 30)) = true := by rfl)
    (hline : (apos.endLine == cpos.line) = true := by rfl) (hs : starEach (e :: es) X.env = (false, eval e X.env) :: starEach es X.env := by rfl) (hplain : (backTo cpos (starEach es X.env)).any (·.1) = false := by rfl) :
    QE X (.Call (.Attribute o name apos) (e :: es) [] cpos) (eM ok r to ta) := imE (L2.pe_bm pa slot hty hm ho ha hbase hfew hline hs hplain) fun σ H Q ⟨z, M, q, rs, m, h, P⟩ =>
  ⟨z, M, _, rs, m, h, fun u M1 h1 v H1 r1 m1 k1 => ⟨hok _ _ _ _ r1 m1 h1.1, z, M1, _, rs.keep k1.tk, m1, h1.2, fun us M2 h2 vs H2 r2 m2 k2 => ⟨u, us, M2, q, r1.keep k2.tk, r2, m2, h2, P.step (k1.trans k2)⟩⟩⟩
theorem qe_bm0 (pa : PlainAttrs T) (slot : Slot T name id) (hty : typeOf (.builtin id) = pure (.type "method_descriptor")) (hm : MtR X id (lowM X.K r)) (hok : ∀ u x H M, Rep X.K H u x → RM X.K H M → ok u M → tyV X.K T x H) (ho : QE X o to)
    (hbase : attributeBase o name X.env (eval o X.env) = eval o X.env := by rfl) (hline : (apos.endLine == cpos.line) = true := by rfl) :
    QE X (.Call (.Attribute o name apos) [] [] cpos) (eM ok r to eNil) := imE (L2.pe_bm0 pa slot hty hm ho hbase hline) fun σ H Q ⟨z, M, q, rs, m, h, P⟩ =>
  ⟨z, M, _, rs, m, h, fun u M1 h1 v H1 r1 m1 k1 => ⟨hok _ _ _ _ r1 m1 h1.1, u, [], M1, q, r1, .nil, m1, h1.2, P.step k1⟩⟩
/-- a list that may change -/
def isML (u : U) (M : Mp) : Prop := ∃ a xs, u = .ref a ∧ M a = some (.lst xs)
theorem isML_ty (u : U) (x : V) (H : Hp) (M : Mp) (r : Rep X.K H u x) (m : RM X.K H M) (h : isML u M) : tyV X.K "list" x H := by
  obtain ⟨a, xs, rfl, e⟩ := h
  obtain ⟨vs, e1, _⟩ := m a _ e
  rw [rref r]
  exact .inl ⟨rfl, vs, .of e1⟩
def isS (u : U) (_ : Mp) : Prop := ∃ s, u = .str s
theorem isS_ty (u : U) (x : V) (H : Hp) (M : Mp) (r : Rep X.K H u x) (m : RM X.K H M) (h : isS u M) : tyV X.K "str" x H := by
  obtain ⟨s, rfl⟩ := h
  rw [rstr r]
  rfl
def rAppend : RM' := fun u us M q => one us fun y => ∃ a xs, u = .ref a ∧ M a = some (.lst xs) ∧ xs.length < sizeLine ∧ q .non (put M a (.lst (xs ++ [y])))
theorem m_append : MtR X "list.append" (lowM X.K rAppend) := mthU mt_append fun u us x xs H M q Q ru rr m h P => by
  obtain ⟨y, rfl, a, ys, rfl, e, hz, h⟩ := one_inv h
  obtain ⟨v, rfl, r⟩ := rr.one_inv
  obtain ⟨vs, e1, r1⟩ := m a _ e
  obtain ⟨m2, k2⟩ := m.wrL e1 (r1.app (.cons r .nil))
  exact ⟨a, vs, v, rref ru, rfl, e1, by rw [← r1.len]; exact hz, P _ _ h _ _ .n m2 ⟨k2⟩⟩
structure rPop (u : U) (us : List U) (M : Mp) (q : QK) : Prop where
  h : us = [] ∧ ∃ a xs y, u = .ref a ∧ M a = some (.lst xs) ∧ xs[xs.length - 1]? = some y ∧ q y (put M a (.lst xs.dropLast))
theorem m_pop : MtR X "list.pop" (lowM X.K rPop) := mthU mt_pop fun u us x xs H M q Q ru rr m h P => by
  obtain ⟨rfl, a, ys, y, rfl, e, hy, h⟩ := h.h
  simp only [RepL] at rr
  obtain ⟨vs, e1, r1⟩ := m a _ e
  obtain ⟨v, hv, rv⟩ := r1.get hy
  obtain ⟨m2, k2⟩ := m.wrL e1 r1.dropLast
  exact ⟨a, vs, v, rref ru, rr, e1, by rw [← r1.len]; exact hv, P _ _ h _ _ (rv.keep k2) m2 ⟨k2⟩⟩
def rRev : RM' := fun u us M q => us = [] ∧ ∃ a xs, u = .ref a ∧ M a = some (.lst xs) ∧ q .non (put M a (.lst xs.reverse))
theorem m_reverse : MtR X "list.reverse" (lowM X.K rRev) := mthU mt_reverse fun u us x xs H M q Q ru rr m h P => by
  obtain ⟨rfl, a, ys, rfl, e, h⟩ := h
  simp only [RepL] at rr
  obtain ⟨vs, e1, r1⟩ := m a _ e
  obtain ⟨m2, k2⟩ := m.wrL e1 r1.rev
  exact ⟨a, vs, rref ru, rr, e1, P _ _ h _ _ .n m2 ⟨k2⟩⟩
/-- the texts of a row -/
def strsU : List U → Option (List Str)
  | [] => some []
  | .str s :: r => (strsU r).map (s :: ·)
  | _ :: _ => none
theorem strsU_of : ∀ {us : List U} {ss : List Str}, strsU us = some ss → us = ss.map U.str
  | [], ss, h => by cases h; rfl
  | .str s :: r, ss, h => by
    have h' : (strsU r).map (s :: ·) = some ss := h
    cases e : strsU r with
    | none => rw [e] at h'; cases h'
    | some ts => rw [e] at h'; cases h'; rw [List.map_cons, strsU_of e]
  | .non :: _, _, h => by cases h
  | .bl _ :: _, _, h => by cases h
  | .int _ :: _, _, h => by cases h
  | .ty _ :: _, _, h => by cases h
  | .ref _ :: _, _, h => by cases h
  | .tup _ :: _, _, h => by cases h
  | .kt _ :: _, _, h => by cases h
  | .lst _ :: _, _, h => by cases h
theorem strsU_map : ∀ ss : List Str, strsU (ss.map U.str) = some ss
  | [] => rfl
  | s :: r => by
    show (strsU (r.map U.str)).map (s :: ·) = _
    rw [strsU_map r]
    rfl
theorem repL_strs {K : Frag} {H : Hp} : ∀ {ss : List Str} {vs : List V}, RepL K H (ss.map U.str) vs → vs = ss.map V.str
  | [], vs, h => by simpa only [List.map_nil, RepL] using h
  | s :: r, vs, h => by
    simp only [List.map_cons, RepL] at h
    obtain ⟨v, vr, rfl, h1, h2⟩ := h
    rw [rstr h1, repL_strs h2, List.map_cons]
def rJoin : RM' := fun u us M q => one us fun y => ∃ a xs ss, u = .str a ∧ seqA M y = some xs ∧ strsU xs = some ss ∧ (ss.map (·.length)).sum + ss.length * a.length ≤ 16777216 ∧ q (.str (Txt.join a ss)) M
theorem m_join : MtR X "str.join" (lowM X.K rJoin) := mthU mt_join fun u us x xs H M q Q ru rr m h P => by
  obtain ⟨y, rfl, a, ys, ss, rfl, e, e2, hz, h⟩ := one_inv h
  obtain ⟨v, rfl, r⟩ := rr.one_inv
  obtain ⟨p, vs, rfl, s, r'⟩ := seqA_of m e r
  have e3 := strsU_of e2
  subst e3
  have e4 := repL_strs r'
  subst e4
  exact ⟨a, p, ss, rstr ru, rfl, s, hz, P.val h m .s⟩
end
end L3

set_option Elab.async false
set_option linter.all false
set_option maxRecDepth 100000
set_option maxHeartbeats 4000000
namespace L3
open PySem PySem.Spec L2
open PyProof.Rows hiding St
/-! ### instances -/
/-- the class is plain, and has no such name of its own -/
structure At (K : Frag) (C : Addr) (f : Str) : Prop where
  cl : Cls K C
  no : NoAttr K C f
def eFld (K : Frag) (to : TE') (f : Str) : TE' := fun z M q => to z M fun x M1 => ∃ a C fs v, x = .ref a ∧ M1 a = some (.ins C fs) ∧ At K C f ∧ fs.lookup f = some v ∧ q v M1
theorem RepL.look {K : Frag} {H : Hp} {f : Str} : ∀ {fs : List (Str × U)} {l : List (Str × V)}, fs.map (·.1) = l.map (·.1) → RepL K H (fs.map (·.2)) (l.map (·.2)) → RepO K H (fs.lookup f) (l.lookup f)
  | [], l, e, _ => by
    cases l with
    | nil => exact True.intro
    | cons _ _ => simp at e
  | (g, u) :: fs, l, e, r => by
    cases l with
    | nil => simp at e
    | cons p l =>
      obtain ⟨g', v⟩ := p
      rw [List.map_cons, List.map_cons] at e
      injection e with e1 e2
      have e1' : g = g' := e1
      subst e1'
      simp only [List.map_cons, RepL] at r
      obtain ⟨v', r', ev, q1, q2⟩ := r
      injection ev with h1 h2
      subst h1 h2
      rw [List.lookup_cons, List.lookup_cons]
      cases (f == g) with
      | true => exact q1
      | false => exact RepL.look e2 q2
theorem RepO.get {K : Frag} {H : Hp} {u : U} {o : Option V} (h : RepO K H (some u) o) : ∃ v, o = some v ∧ Rep K H u v := by
  cases o with
  | none => exact (show False from h).elim
  | some v => exact ⟨v, rfl, h⟩
theorem RepO.none {K : Frag} {H : Hp} {o : Option V} (h : RepO K H none o) : o = Option.none := by
  cases o with
  | none => rfl
  | some v => exact (show False from h).elim
def putU (f : Str) (v : U) : List (Str × U) → List (Str × U)
  | [] => [(f, v)]
  | (g, x) :: r => if g = f then (g, v) :: r else (g, x) :: putU f v r
theorem putU_ok {K : Frag} {H : Hp} {f : Str} {u : U} {v : V} (ru : Rep K H u v) : ∀ {fs : List (Str × U)} {l : List (Str × V)}, fs.map (·.1) = l.map (·.1) → RepL K H (fs.map (·.2)) (l.map (·.2)) →
    (putU f u fs).map (·.1) = (putF f v l).map (·.1) ∧ RepL K H ((putU f u fs).map (·.2)) ((putF f v l).map (·.2))
  | [], l, e, r => by
    cases l with
    | nil => exact ⟨rfl, by simpa [putU, putF] using RepL.cons ru .nil⟩
    | cons _ _ => simp at e
  | (g, w) :: fs, l, e, r => by
    cases l with
    | nil => simp at e
    | cons p l =>
      obtain ⟨g', y⟩ := p
      rw [List.map_cons, List.map_cons] at e
      injection e with e1 e2
      have e1' : g = g' := e1
      subst e1'
      simp only [List.map_cons, RepL] at r
      obtain ⟨v', r', ev, q1, q2⟩ := r
      injection ev with h1 h2
      subst h1 h2
      show List.map _ (if g = f then (g, u) :: fs else (g, w) :: putU f u fs) = List.map _ (if g = f then (g, v) :: l else (g, y) :: putF f v l) ∧ RepL K H (List.map _ (if g = f then (g, u) :: fs else (g, w) :: putU f u fs)) (List.map _ (if g = f then (g, v) :: l else (g, y) :: putF f v l))
      by_cases hg : g = f
      · rw [if_pos hg, if_pos hg]
        exact ⟨by rw [List.map_cons, List.map_cons, e2], .cons ru q2⟩
      · rw [if_neg hg, if_neg hg]
        obtain ⟨i1, i2⟩ := putU_ok ru e2 q2
        exact ⟨by rw [List.map_cons, List.map_cons, i1], .cons q1 i2⟩
section
variable {X : Cx} {o e : Expr} {f : Str} {pos pos' : Pos} {to te : TE'}
theorem qe_fld (ho : QE X o to) (hb : attributeBase o f X.env (eval o X.env) = eval o X.env := by rfl) : QE X (.Attribute o f pos) (eFld X.K to f) := imE (pe_fld ho hb) fun σ H Q ⟨z, M, q, rs, m, h, P⟩ =>
  ⟨z, M, _, rs, m, h, fun x M1 h1 vx H1 rx m1 k1 => by
    obtain ⟨a, C, fs, v, rfl, ea, A, l, hq⟩ := h1
    obtain ⟨dx, fl, e1, _, e2, r⟩ := m1 a _ ea
    have ro := RepL.look (f := f) e2 r
    rw [l] at ro
    obtain ⟨w, lw, rw'⟩ := ro.get
    exact ⟨a, C, dx, fl, w, rref rx, e1, A.cl, A.no, lw, (P.step k1).val hq m1 rw'⟩⟩
/-- o.f = e -/
def sFld (K : Frag) (to te : TE') (f : Str) : TS' := fun d z M => te z M fun v M1 => to z M1 fun x M2 => ∃ a C fs, x = .ref a ∧ M2 a = some (.ins C fs) ∧ At K C f ∧ fs.length < 1000 ∧ d.nx z (put M2 a (.ins C (putU f v fs)))
theorem RM.wrI {K : Frag} {H : Hp} {M : Mp} {a C dx : Addr} {l : List (Str × V)} {fs : List (Str × U)} {u : U} {v : V} (m : RM K H M) (e : H a = some (.ins C dx l)) (hd : H dx = some (.own a)) (e2 : fs.map (·.1) = l.map (·.1)) (r : RepL K H (fs.map (·.2)) (l.map (·.2))) (ru : Rep K H u v) :
    RM K (upd H a (.ins C dx (putF f v l))) (put M a (.ins C (putU f u fs))) ∧ TK H (upd H a (.ins C dx (putF f v l))) := by
  have tk : TK H (upd H a (.ins C dx (putF f v l))) := .wr e (fun _ z => nomatch z) fun _ _ z => nomatch z
  obtain ⟨q1, q2⟩ := putU_ok (f := f) (ru.keep tk) e2 (r.keep tk)
  exact m.wrD e (fun _ z => nomatch z) (fun _ _ z => nomatch z) (fun _ z => nomatch z) ⟨dx, _, upd_same, by rw [upd_ne (fun z => by rw [z, e] at hd; cases hd)]; exact hd, q1, q2⟩
theorem qs_fld (ho : QE X o to) (he : QE X e te) (hs : swapsWith e (some (.Attribute o f pos')) pos.line X.env = pure false := by rfl) : QS X (.Assign [.Attribute o f pos'] e pos) (sFld X.K to te f) := imS (ps_fld ho he hs) fun D σ H ⟨z, M, d, rs, m, h, P⟩ =>
  ⟨z, M, _, rs, m, h, fun v M1 h1 vv H1 rv m1 k1 => ⟨z, M1, _, rs.keep k1.tk, m1, h1, fun x M2 h2 vx H2 rx m2 k2 => by
    obtain ⟨a, C, fs, rfl, ea, A, hl, hq⟩ := h2
    obtain ⟨dx, fl, e1, hd, e2, r⟩ := m2 a _ ea
    have hlen : fs.length = fl.length := by simpa using congrArg List.length e2
    obtain ⟨m3, k3⟩ := m2.wrI (f := f) e1 hd e2 r (rv.keep k2.tk)
    refine ⟨a, C, dx, fl, rref rx, e1, A.cl, A.no, by rw [← hlen]; exact hl, P.nx z _ hq σ _ (((rs.keep k1.tk).keep k2.tk).keep k3) m3 ⟨(k1.tk.trans k2.tk).trans k3⟩⟩⟩⟩
end
/-! ### methods of one's own classes -/
def eMeth (C : Addr) (m : Str) (sp : Sp') (W : WX') (to : TE') (ta : TA') : TE' := fun z M q => to z M fun x M1 => ∃ a fs, x = .ref a ∧ M1 a = some (.ins C fs) ∧ fs.lookup m = none ∧ ta z M1 fun us M2 => sp (x :: us) M2 q fun D fs M3 => W D fs z M3
section
variable {X : Cx} {k : Nat} {f C : Addr} {fd : FuncData} {ps : List Str} {x m : Str} {p pos apos : Pos} {e o : Expr} {es : List Expr} {sp : Sp'} {W : WX'} {to : TE'} {ta : TA'}
theorem qe_meth {pl : Sem Bool} (ho : QE X o to) (c : Cls X.K C) (hm : Meth X.K C m f) (F : FnG X.prog X.w X.K X.mg X.base k f fd ps (lowSp X.K sp)) (hr : Room k X.A) (hg : X.A.guards = some []) (tk : Takes X (lowW X.K W)) (hb : Binds X.K fd ps []) (ha : QA X (e :: es) ta)
    (hst : starEach (e :: es) X.env = (false, eval e X.env) :: starEach es X.env := by rfl) (hpl : (backTo pos (starEach es X.env)).any (·.1) = false := by rfl)
    (ht : eval (.Call (.Attribute o m apos) (e :: es) [] pos) X.env = (do
      let ov ← eval o X.env
      standAt apos.atName
      let (f, first) ← holding [ov] (getMethod ov m pl)
      callWith pos f first (backTo pos (starEach (e :: es) X.env)) (backToKw pos (keywordEach [] X.env))) := by rfl) :
    QE X (.Call (.Attribute o m apos) (e :: es) [] pos) (eMeth C m sp W to ta) := by
  refine ⟨fun pins s σ H Q I h => ?_⟩
  obtain ⟨z, M, q, hs, mm, hq, P⟩ := h
  refine PySem.W.methodCall_KW (pl := pl) (thn (ho.run pins s σ H (fun v H1 => ∃ a dx fl, v = .ref a ∧ H1 a = some (.ins C dx fl) ∧ fl.lookup m = none ∧ lowA X.K ta σ H1 fun vs H2 => lowSp X.K sp (v :: vs) H2 Q fun c d H' => lowW X.K W c d σ H') I ⟨z, M, _, hs, mm, hq, ?_⟩) ?_) ht
  · intro u M1 h1 v H1 ru m1 k1
    obtain ⟨a, fs, rfl, ea, l, h2⟩ := h1
    obtain ⟨dx, fl, e1, _, e2, r⟩ := m1 a _ ea
    have ro := RepL.look (f := m) e2 r
    rw [l] at ro
    refine ⟨a, dx, fl, rref ru, e1, ro.none, z, M1, _, hs.keep k1.tk, m1, h2, fun us M2 h3 vs H2 rs m2 k2 => ?_⟩
    exact low_call (.cons (ru.keep k2.tk) rs) m2 ((hs.keep k1.tk).keep k2.tk) (P.step (k1.trans k2)) h3
  · intro ov s1 h1
    obtain ⟨v, H1, I1, r1, a, dx, fl, ev, ea, l, q1⟩ := h1
    subst ev
    cases r1
    refine getmeth_ok I1 ea c hm l ?_
    refine PySem.W.callWith_K (first := [.ref a]) (h₀ := X.base) I.ok.mod.kin hm.kp (thn (ha.run pos pins s1 σ H1 _ I1 q1) ?_) hst hpl
    intro us s2 h2
    obtain ⟨vs, H2, I2, r2, q2⟩ := h2
    exact ⟨I2.kIn, run_fnG (us := .ref a :: us) (vs := .ref a :: vs) F hr hg hb tk I2 (.cons rfl r2) q2⟩
theorem qe_meth0 {pl : Sem Bool} (ho : QE X o to) (c : Cls X.K C) (hm : Meth X.K C m f) (F : FnG X.prog X.w X.K X.mg X.base k f fd ps (lowSp X.K sp)) (hr : Room k X.A) (hg : X.A.guards = some []) (tk : Takes X (lowW X.K W)) (hb : Binds X.K fd ps [])
    (ht : eval (.Call (.Attribute o m apos) [] [] pos) X.env = (do
      let ov ← eval o X.env
      standAt apos.atName
      let (f, first) ← holding [ov] (getMethod ov m pl)
      callWith pos f first (backTo pos (starEach [] X.env)) (backToKw pos (keywordEach [] X.env))) := by rfl) :
    QE X (.Call (.Attribute o m apos) [] [] pos) (eMeth C m sp W to eNil) := by
  refine ⟨fun pins s σ H Q I h => ?_⟩
  obtain ⟨z, M, q, hs, mm, hq, P⟩ := h
  refine PySem.W.methodCall_KW (pl := pl) (thn (ho.run pins s σ H (fun v H1 => ∃ a dx fl, v = .ref a ∧ H1 a = some (.ins C dx fl) ∧ fl.lookup m = none ∧ lowSp X.K sp [v] H1 Q fun c d H' => lowW X.K W c d σ H') I ⟨z, M, _, hs, mm, hq, ?_⟩) ?_) ht
  · intro u M1 h1 v H1 ru m1 k1
    obtain ⟨a, fs, rfl, ea, l, h2⟩ := h1
    obtain ⟨dx, fl, e1, _, e2, r⟩ := m1 a _ ea
    have ro := RepL.look (f := m) e2 r
    rw [l] at ro
    exact ⟨a, dx, fl, rref ru, e1, ro.none, low_call (.cons ru .nil) m1 (hs.keep k1.tk) (P.step k1) h2⟩
  · intro ov s1 h1
    obtain ⟨v, H1, I1, r1, a, dx, fl, ev, ea, l, q1⟩ := h1
    subst ev
    cases r1
    refine getmeth_ok I1 ea c hm l ?_
    exact PySem.W.callWith_K0 (first := [.ref a]) I1.kIn hm.kp (run_fnG (us := [.ref a]) (vs := [.ref a]) F hr hg hb tk I1 (.cons rfl .nil) q1)
/-! ### C(..): a new instance, then its __init__ -/
def eMake (C : Addr) (sp : Sp') (W : WX') (ta : TA') : TE' := fun z M q => ta z M fun us M1 => ∀ x, M1 x = none → sp (.ref x :: us) (put M1 x (.ins C [])) (fun v M2 => v = .non ∧ q (.ref x) M2) fun D fs M3 => W D fs z M3
theorem qe_make (Mk' : Mk X.K C f) (F : FnG X.prog X.w X.K X.mg X.base k f fd ps (lowSp X.K sp)) (hr : Room (k + 1) X.A) (hg : X.A.guards = some []) (tk : Takes X (lowW X.K W)) (hm : X.mg x = some (.ref C)) (hb : Binds X.K fd ps []) (ha : QA X (e :: es) ta)
    (hgl : Gl X x := by rfl) (hdb : (x == ("__debug__" : Str)) = false := by decide) (he : starEach (e :: es) X.env = (false, eval e X.env) :: starEach es X.env := by rfl) (hpl : (backTo pos (starEach es X.env)).any (·.1) = false := by rfl) :
    QE X (.Call (.Name x p) (e :: es) [] pos) (eMake C sp W ta) := by
  refine ⟨fun pins s σ H Q I h => ?_⟩
  obtain ⟨z, M, q, hs, mm, hq, P⟩ := h
  refine wpAny_Call_Name_kw (ld_glob I hgl hm ?_ hdb)
  refine PySem.W.callWith_K (h₀ := X.base) I.ok.mod.kin Mk'.kp ?_ he hpl
  refine thn (ha.run pos pins s σ H (fun vs H1 => ∀ x dx, H1 x = none → H1 dx = none → dx ≠ x → lowSp X.K sp (.ref x :: vs) (upd (upd H1 dx (.own x)) x (.ins C dx [])) (fun v H2 => v = .non ∧ Q (.ref x) H2) fun c d H' => lowW X.K W c d σ H') I ⟨z, M, _, hs, mm, hq, ?_⟩) ?_
  · intro us M1 h1 vs H1 r m1 k1 x dx hx hdx hne
    have t1 : TK H1 (upd H1 dx (.own x)) := .new hdx
    have hx1 : upd H1 dx (.own x) x = none := by rw [upd_ne (Ne.symm hne)]; exact hx
    have t2 : TK H1 (upd (upd H1 dx (.own x)) x (.ins C dx [])) := t1.trans (.new hx1)
    have m2 : RM X.K (upd (upd H1 dx (.own x)) x (.ins C dx [])) (put M1 x (.ins C [])) :=
      (m1.hid hdx).new (mo := .ins C []) hx1 ⟨dx, [], upd_same, by rw [upd_ne hne, upd_same], rfl, by simpa using RepL.nil⟩
    refine ⟨.ref x :: us, _, _, _, .cons .r (r.keep t2), m2, h1 x (m1.fresh hx), fun u M2 h2 v H2 ru mm2 k2 => ?_, fun D fs M3 w cls d H3 xr m3 k3 => ⟨D, fs, z, M3, xr, ((hs.keep k1.tk).keep t2).keep k3.tk, m3, w⟩⟩
    obtain ⟨rfl, h2⟩ := h2
    exact ⟨rnon ru, P _ _ h2 _ _ .r mm2 ⟨(k1.tk.trans t2).trans k2.tk⟩⟩
  · intro us s1 h1
    obtain ⟨vs, H1, I1, r, q1⟩ := h1
    refine ⟨I1.kIn, ?_⟩
    have hq1 := q1 (s1.heap.objs.size + 1) s1.heap.objs.size (I1.hok.fresh (Nat.le_succ _)) (I1.hok.fresh (Nat.le_refl _)) (Nat.ne_of_lt (Nat.lt_succ_self _))
    have I2 := Inv.made (C := C) I1
    have r2 : Vals (V.ref (s1.heap.objs.size + 1) :: vs) (Value.ref (s1.heap.objs.size + 1) :: us) := .cons rfl r
    have hl : (Value.ref (s1.heap.objs.size + 1) :: us).length = ps.length := by
      have el := r2.length
      rw [F.len _ _ _ _ hq1] at el
      exact el.symm
    have hbb := hb _ (Value.ref (s1.heap.objs.size + 1) :: us) I2.kIn (by simpa using hl)
    rw [List.append_nil] at hbb
    refine wpAny_call (make_map (f := f) I1.kIn Mk'.makes Mk'.init (beq_iff_eq.mp Mk'.fn) (codeAny_mono (F.run _ X.stack _ _ ⟨Value.ref (s1.heap.objs.size + 1) :: us, []⟩ (Value.ref (s1.heap.objs.size + 1) :: us) _ _ _ (hr.make C us []) ?_ (I2.env0.make C us []) hbb r2 hq1) ?_))
    · first | exact hg | (simpa [Around.under, Code.guards, Code.isGuard, pushGuards] using hg)
    · intro res s' hq'
      cases res with
      | error er => exact tk _ _ (XE.of_call I2 (fun _ _ _ w => w) hq')
      | ok fl =>
        cases fl with
        | ret u =>
          obtain ⟨v, H', I3, rv, ev, q3⟩ := I2.after hq'
          subst ev
          exact ⟨rv, ⟨V.ref (s1.heap.objs.size + 1), H', I3, rfl, q3⟩⟩
        | next => exact hq'.elim
        | brk => exact hq'.elim
        | cont => exact hq'.elim
end
end L3

set_option Elab.async false
set_option linter.all false
set_option maxRecDepth 100000
set_option maxHeartbeats 4000000
namespace L3
open PySem PySem.Spec L2
open PyProof.Rows hiding St
open PySem.W (EachIs)
/-! ### sorted(..) -/
theorem rep_kV {K : Frag} {H : Hp} : ∀ k : Key, Rep K H (keyU k) (kV k)
  | .inl _ => .i
  | .inr _ => .s
theorem repL_kV {K : Frag} {H : Hp} : ∀ ks : List Key, RepL K H (ks.map keyU) (ks.map kV)
  | [] => .nil
  | k :: ks => .cons (rep_kV k) (repL_kV ks)
def dOf (u : U) : PyData := (dT u).getD .none
def sortU (us : List U) : List U := us.mergeSort (PySem.W.dataLe false dOf)
/-- what may be sorted -/
structure SortOk (us : List U) : Prop where
  dat : ∀ u ∈ us, (dT u).isSome = true
  alk : PySem.W.AllAlike (us.map dOf)
  srt : PySem.W.Sortable (us.map dOf)
  dep : ∀ u ∈ us, (dOf u).depth ≤ 60
section
variable {X : Cx} {pins : List (Addr × Obj)} {σ : L2.St} {H : Hp} {s : Shared}
theorem each_of (I : Inv X pins σ H s) : ∀ {us : List U} {vs : List V} {its : List Value}, RepL X.K H us vs → Vals vs its → (∀ u ∈ us, (dT u).isSome = true) →
    EachIs (fun v (b : U × V) => RelV b.2 v) its (us.zip vs) ∧ EachIs (fun v (b : U × V) => ∃ as, Reads s.heap v (dOf b.1) as) its (us.zip vs)
  | [], vs, its, rl, rv, _ => by
    simp only [RepL] at rl
    subst rl
    cases rv
    exact ⟨.nil, .nil⟩
  | u :: us, vs, its, rl, rv, h => by
    simp only [RepL] at rl
    obtain ⟨v, r, rfl, r1, r2⟩ := rl
    cases rv with
    | cons a b =>
      obtain ⟨q1, q2⟩ := each_of I r2 b fun u hu => h u (List.mem_cons_of_mem _ hu)
      have hs := h u (List.mem_cons_self ..)
      cases e : dT u with
      | none => rw [e] at hs; cases hs
      | some d =>
        have ed : dOf u = d := by unfold dOf; rw [e]; rfl
        refine ⟨.cons a q1, .cons ?_ q2⟩
        show ∃ as, Reads s.heap _ (dOf u) as
        rw [ed]
        exact Dp.reads I d v _ (dT_ok e r1) a
theorem vals_each : ∀ {out : List Value} {bs : List (U × V)}, EachIs (fun v (b : U × V) => RelV b.2 v) out bs → Vals (bs.map (·.2)) out
  | [], _, .nil => .nil
  | _ :: _, _, .cons h t => .cons h (vals_each t)
theorem repL_pairs {K : Frag} {H : Hp} : ∀ {bs : List (U × V)}, (∀ b ∈ bs, Rep K H b.1 b.2) → RepL K H (bs.map (·.1)) (bs.map (·.2))
  | [], _ => .nil
  | b :: bs, h => .cons (h b (List.mem_cons_self ..)) (repL_pairs fun c hc => h c (List.mem_cons_of_mem _ hc))
theorem repL_zip {K : Frag} {H : Hp} : ∀ {us : List U} {vs : List V}, RepL K H us vs → ∀ b ∈ us.zip vs, Rep K H b.1 b.2
  | [], _, _, b, hb => by simp at hb
  | u :: us, _, rl, b, hb => by
    simp only [RepL] at rl
    obtain ⟨v, r, rfl, r1, r2⟩ := rl
    rw [List.zip_cons_cons] at hb
    rcases List.mem_cons.mp hb with rfl | hb
    · exact r1
    · exact repL_zip r2 b hb
theorem sort_zip {us : List U} {vs : List V} (hl : us.length = vs.length) : ((us.zip vs).mergeSort (PySem.W.dataLe false fun b : U × V => dOf b.1)).map (·.1) = sortU us := by
  unfold sortU
  have e := List.map_mergeSort (r := PySem.W.dataLe false fun b : U × V => dOf b.1) (s := PySem.W.dataLe false dOf) (f := fun b : U × V => b.1) (l := us.zip vs) (fun a _ b _ => rfl)
  rw [e, show List.map (fun b : U × V => b.1) (us.zip vs) = us from List.map_fst_zip (by omega)]
theorem enc_zip {us : List U} {vs : List V} (hl : us.length = vs.length) : (us.zip vs).map (fun b : U × V => dOf b.1) = us.map dOf := by
  have : (us.zip vs).map (fun b : U × V => dOf b.1) = ((us.zip vs).map (·.1)).map dOf := by rw [List.map_map]; rfl
  rw [this, List.map_fst_zip (by omega)]
theorem call_sortT (hu : X.A.units + 64 < cLine) : CallR X (.builtin "sorted") (fun xs H Q => ∃ a us vs, xs = [.ref a] ∧ SqL X.K H a vs ∧ RepL X.K H us vs ∧ SortOk us ∧
    ∀ p ws, H p = none → RepL X.K H (sortU us) ws → Q (.ref p) (upd H p (.lst ws))) := by
  intro pins s σ H xs uu Q I r h
  obtain ⟨a, us, vs, rfl, hs, rl, ok, q⟩ := h
  obtain ⟨its, rv, hl, hz⟩ := I.list hs
  rw [Vals.ref1 r]
  obtain ⟨e1, e2⟩ := each_of I rl rv ok.dat
  have hlen := rl.len
  have hb : (us.zip vs).length = us.length := by rw [List.length_zip]; omega
  refine PySem.W.sorted_data (enc := fun b : U × V => dOf b.1) hl.isList e1 e2 (by rw [enc_zip hlen]; exact ok.alk) (by rw [enc_zip hlen]; exact ok.srt) (by rw [hb, hlen]; exact hz)
    (fun b hb => ?_) fun out hol ho => ?_
  · have := ok.dep b.1 (List.of_mem_zip hb).1
    omega
  obtain ⟨ep, he'⟩ := PyProof.Rows.sortedAll_at s.heap its out.toArray
  have hv := vals_each ho
  have hlen2 : ((((us.zip vs).mergeSort (PySem.W.dataLe false fun b : U × V => dOf b.1))).map (·.2)).length ≤ sizeLine := by
    rw [List.length_map, List.length_mergeSort, hb, hlen]; exact hz
  refine ⟨.ref _, upd H (s.heap.objs.size + 1) _, I.laid (t' := s.toks) (fun _ _ => PyProof.Rows.sortedAll_old) (Nat.le_succ _) (show ObjOk X.prog X.w _ _ _ (.lst _) from ⟨hlen2, out, ep, hv, he'⟩), rfl, q _ _ (I.hok.fresh (Nat.le_succ _)) ?_⟩
  rw [← sort_zip hlen]
  exact repL_pairs fun b hb => repL_zip rl b (List.mem_mergeSort.mp hb)
theorem sort_end (hu : X.A.units + 64 < cLine) {us : List U} {vs : List V} {its : List Value} {h' : Heap} {tk : Nat} {Q : VK} {P : PySem.Fin → Shared → Prop} (I0 : Inv X pins σ H s) (hk : ∀ b o, s.heap.get? b = some o → h'.get? b = some o) (rl : RepL X.K H us vs) (rv : Vals vs its) (ok : SortOk us) (hz : its.length ≤ sizeLine)
    (q : ∀ p ws, H p = none → RepL X.K H (sortU us) ws → Q (.ref p) (upd H p (.lst ws)))
    (hP : ∀ s', EP X pins σ Q (.ref h'.objs.size) s' → P (.done (.ret .none)) s') :
    wpAny (model X.prog X.w) X.A.in1.in1 (Builtin.«list.sort» ⟨[.ref h'.objs.size], []⟩) P X.xe { s with heap := h'.push (seqObj "list" its.toArray 0), toks := tk } := by
  have hoL : (h'.push (seqObj "list" its.toArray 0)).get? h'.objs.size = some (seqObj "list" its.toArray 0) := Heap.get?_push_size _ rfl
  have I1 : Inv X pins σ H { s with heap := h', toks := tk } := I0.kept hk
  have old : ∀ b o, h'.get? b = some o → (PySem.W.sortingHeap (h'.push (seqObj "list" its.toArray 0)) h'.objs.size its).get? b = some o := fun b o e =>
    PySem.W.sortingHeap_old (Nat.ne_of_lt (Heap.lt_size e)) (Heap.get?_push_of_some _ e)
  obtain ⟨e1, e2⟩ := each_of I1 rl rv ok.dat
  have e2' : EachIs (fun v (b : U × V) => ∃ as, Reads (PySem.W.sortingHeap (h'.push (seqObj "list" its.toArray 0)) h'.objs.size its) v (dOf b.1) as) its (us.zip vs) := e2.mono fun _ _ ⟨as, r⟩ => ⟨as, PyProof.Rows.Reads.keeps old r⟩
  have hlen := rl.len
  have hb : (us.zip vs).length = us.length := by rw [List.length_zip]; omega
  refine PySem.W.list_sort_vals (s := { s with heap := h'.push (seqObj "list" its.toArray 0), toks := tk }) (κ := PySem.W.dataKind (PySem.W.sortingHeap (h'.push (seqObj "list" its.toArray 0)) h'.objs.size its) ((us.zip vs).map fun b : U × V => dOf b.1)) hoL
    (PySem.W.SortsAt.data (s := { s with heap := PySem.W.sortingHeap (h'.push (seqObj "list" its.toArray 0)) h'.objs.size its, toks := tk }) (PySem.W.each_map (R := fun v d => ∃ as, Reads (PySem.W.sortingHeap (h'.push (seqObj "list" its.toArray 0)) h'.objs.size its) v d as) (fun b : U × V => dOf b.1) e2') (by rw [enc_zip hlen]; exact ok.alk) (by rw [enc_zip hlen]; exact ok.srt) ?_) hz ?_
  · intro d hd
    rw [enc_zip hlen] at hd
    obtain ⟨u, hu', rfl⟩ := List.mem_map.mp hd
    have := ok.dep u hu'
    show X.A.units + 1 + 1 + _ < cLine
    omega
  · have ho := PySem.W.sortVals_data false e1 e2' (by rw [enc_zip hlen]; exact ok.alk)
    obtain ⟨e', he'⟩ := PyProof.Rows.sortedHeap_at (vs := its) (out := (PySem.W.sortVals (PySem.W.dataKind (PySem.W.sortingHeap (h'.push (seqObj "list" its.toArray 0)) h'.objs.size its) ((us.zip vs).map fun b : U × V => dOf b.1)) false its its).toArray) hoL
    have hv := vals_each ho
    have hlen2 : ((((us.zip vs).mergeSort (PySem.W.dataLe false fun b : U × V => dOf b.1))).map (·.2)).length ≤ sizeLine := by
      rw [List.length_map, List.length_mergeSort, hb, hlen, rv.length]; exact hz
    refine hP _ ⟨.ref h'.objs.size, upd H h'.objs.size _, I1.laid (t' := tk) (fun b u e => ?_) (Nat.le_refl _) (show ObjOk X.prog X.w _ _ _ (.lst _) from ⟨hlen2, _, e', hv, he'⟩), rfl, q _ _ (I1.hok.fresh (Nat.le_refl _)) ?_⟩
    · have hb : b < h'.objs.size := Heap.lt_size e
      rw [PyProof.Rows.sortedHeap_old (Nat.ne_of_lt hb) (by rw [size_push']; exact Nat.lt_succ_of_lt hb)]
      exact Heap.get?_push_of_some _ e
    · rw [← sort_zip hlen]
      exact repL_pairs fun b hb => repL_zip rl b (List.mem_mergeSort.mp hb)
/-- sorted(d), keys ints or texts -/
theorem call_sortK (hc : X.calm = true) (hu : X.A.units + 64 < cLine) : CallR X (.builtin "sorted") (fun xs H Q => ∃ a kvs l, xs = [.ref a] ∧ Rd H a (.dK l) ∧ RepP X.K H keyU kvs l ∧ SortOk (kvs.map (·.1)) ∧
    ∀ p ws, H p = none → RepL X.K H (sortU (kvs.map (·.1))) ws → Q (.ref p) (upd H p (.lst ws))) := by
  intro pins s σ H xs uu Q I r h
  obtain ⟨a, kvs, l, rfl, hd, rp, ok, q⟩ := h
  obtain ⟨u, rfl, rx⟩ := vals1 r
  cases rx
  obtain ⟨z, lo, vs, rel, dd⟩ := dk_rd I.hok hd
  obtain ⟨ep, hat⟩ := dd.dictAt
  have hl : l.length = vs.length := Paired.length rel
  have h16 : vs.length ≤ sizeLine := by rw [← hl]; exact z
  refine Calls.call_function_entry PyProof.Rows.kind_sorted PyProof.Rows.plain_sorted PyProof.Rows.entry_sorted (PyProof.Rows.args_sorted1 _) ?_
  unfold Builtin.«sorted»
  refine wpAny_bind (m := checkCount "sorted" 1 1 _) (wpAny_pure ?_)
  refine wpAny_bind (PySem.W.kdu_collect (A := X.A.in1) (PySem.W.kdl_dict (knd := mixKind X.prog X.w) (kvs := vs) (ep := ep) lo) (I.ok.hd hc) hat h16 fun h' tk acc hk hacc => ?_)
  have hal : acc.toList.length = vs.length := by rw [Array.length_toList, hacc.1]
  have rv : Vals (l.map fun kv => kV kv.1) acc.toList := by
    refine vals_of_at (by rw [List.length_map, hal, hl]) fun j x w h1 h2 => ?_
    obtain ⟨k, y, hky, hi⟩ := hacc.2 j w (by rw [← Array.getElem?_toList]; exact h2)
    have e1 : (l.map (·.1))[j]? = some k := by
      rw [KV.keys rel, List.getElem?_map, hky] <;> rfl
    have e2 : (l.map fun kv => kV kv.1)[j]? = some (kV k) := by
      have e3 : (l.map fun kv => kV kv.1) = (l.map (·.1)).map kV := by rw [List.map_map] <;> rfl
      rw [e3, List.getElem?_map, e1] <;> rfl
    rw [e2] at h1
    cases h1
    exact keyIs_rel hi
  have rl : RepL X.K H (kvs.map (·.1)) (l.map fun kv => kV kv.1) := by
    rw [rp.1]
    refine RepL.ofGet (by simp) fun i u v e1 e2 => ?_
    rw [List.getElem?_map] at e1 e2
    cases e : l[i]? with
    | none => rw [e] at e1; cases e1
    | some p =>
      rw [e] at e1 e2
      cases e1
      cases e2
      exact rep_kV _
  refine wpAny_bind (wpAny_newList ?_ (by rw [hal]; exact h16))
  have hoL : (h'.push (seqObj "list" acc.toList.toArray 0)).get? h'.objs.size = some (seqObj "list" acc.toList.toArray 0) := Heap.get?_push_size _ rfl
  show wpAny _ _ _ _ _ { s with heap := h'.push (seqObj "list" acc.toList.toArray 0), toks := tk }
  refine wpAny_bind (wpAny_holding (wpAny_call_entry PyProof.Rows.slot_list_sort ⟨_, hoL, rfl⟩ PyProof.Rows.entry_list_sort (sort_end hu I hk rl rv ok (by rw [hal]; exact h16) q fun s' e => ⟨_, rfl, ?_⟩) (PyProof.Rows.args_list_sort _)))
  exact wpAny_pure ⟨_, rfl, e⟩
/-- sorted(d), keys tuples -/
theorem call_sortKT (hc : X.calm = true) (hu : X.A.units + 64 < cLine) : CallR X (.builtin "sorted") (fun xs H Q => ∃ a kvs l, xs = [.ref a] ∧ Rd H a (.dT l) ∧ RepP X.K H keysU kvs l ∧ SortOk (kvs.map (·.1)) ∧
    ∀ p ws, H p = none → RepL X.K H (sortU (kvs.map (·.1))) ws → Q (.ref p) (upd H p (.lst ws))) := by
  intro pins s σ H xs uu Q I r h
  obtain ⟨a, kvs, l, rfl, hd, rp, ok, q⟩ := h
  obtain ⟨u, rfl, rx⟩ := vals1 r
  cases rx
  obtain ⟨z, hs, ks, pr, o, es, ep, ho, hx, hdt, he, hn⟩ := (show ObjOk X.prog X.w H s.heap a (.dT l) from hd.ok I.hok)
  have l1 : es.size = ks.length := size_of_entries he
  have l2 : l.length = ks.length := Paired.length pr
  have h16 : es.size ≤ sizeLine := by omega
  refine Calls.call_function_entry PyProof.Rows.kind_sorted PyProof.Rows.plain_sorted PyProof.Rows.entry_sorted (PyProof.Rows.args_sorted1 _) ?_
  unfold Builtin.«sorted»
  refine wpAny_bind (m := checkCount "sorted" 1 1 _) (wpAny_pure ?_)
  refine wpAny_bind (PySem.W.kdu_collect (A := X.A.in1) (kdl_raw hs hx hdt) (I.ok.hd hc) ho h16 fun h' tk acc hk hacc => ?_)
  have hal : acc.toList.length = ks.length := by rw [Array.length_toList, hacc.1]; exact l1
  have ea : acc.toList = ks.map fun x => Value.ref x.2.1 := by
    apply List.ext_getElem?
    intro j
    rw [List.getElem?_map]
    cases hj : acc.toList[j]? with
    | none =>
      have h1 := List.getElem?_eq_none_iff.mp hj
      rw [List.getElem?_eq_none (by omega)]
      all_goals rfl
    | some v =>
      obtain ⟨en, hen, hv⟩ := hacc.2 j v (by rw [← Array.getElem?_toList]; exact hj)
      have qe := entry_at he j
      rw [hen] at qe
      cases hb : ks[j]? with
      | none =>
        rw [hb] at qe
        exact nomatch (show some en = none from qe)
      | some b =>
        rw [hb] at qe
        have e2 : en = entryOfKey (tupleKind (mixKind X.prog X.w)) b := Option.some.inj qe
        rw [hv, e2]
        all_goals rfl
  have eb : acc.toList = (ks.map fun x => x.2.1).map Value.ref := by rw [ea, List.map_map]; all_goals rfl
  have rv : Vals ((ks.map fun x => x.2.1).map V.ref) acc.toList := by rw [eb]; exact vals_refs _
  have ik := isKeys_of pr
  have rl : RepL X.K H (kvs.map (·.1)) ((ks.map fun x => x.2.1).map V.ref) := by
    rw [rp.1]
    refine RepL.ofGet (by simp [l2]) fun i u v e1 e2 => ?_
    rw [List.getElem?_map] at e1
    rw [List.getElem?_map] at e2
    cases e : l[i]? with
    | none => rw [e] at e1; cases e1
    | some p =>
      rw [e] at e1
      cases e1
      cases e' : (ks.map fun x => x.2.1)[i]? with
      | none => rw [e'] at e2; cases e2
      | some b =>
        rw [e'] at e2
        cases e2
        have hb : H b = some (.tup (p.1.map kV)) := by
          unfold IsKeys at ik
          obtain ⟨p', e3, e4⟩ := L2.DX.pget ik e'
          rw [e] at e3
          cases e3
          exact e4
        show Rep X.K H (keysU p.1) (.ref b)
        unfold keysU
        simp only [Rep]
        exact ⟨b, _, rfl, hb, repL_kV _⟩
  refine wpAny_bind (wpAny_newList ?_ (by rw [hal]; omega))
  have hoL : (h'.push (seqObj "list" acc.toList.toArray 0)).get? h'.objs.size = some (seqObj "list" acc.toList.toArray 0) := Heap.get?_push_size _ rfl
  show wpAny _ _ _ _ _ { s with heap := h'.push (seqObj "list" acc.toList.toArray 0), toks := tk }
  refine wpAny_bind (wpAny_holding (wpAny_call_entry PyProof.Rows.slot_list_sort ⟨_, hoL, rfl⟩ PyProof.Rows.entry_list_sort (sort_end hu I hk rl rv ok (by rw [hal]; omega) q fun s' e => ⟨_, rfl, ?_⟩) (PyProof.Rows.args_list_sort _)))
  exact wpAny_pure ⟨_, rfl, e⟩
/-- a list's items sorted, a dict's keys -/
def rSorted : RC' := fun us M q => one us fun u => (∃ xs, seqL M u = some xs ∧ SortOk xs ∧ newL (sortU xs) M q) ∨ ∃ a tk lk kvs, u = .ref a ∧ M a = some (.dic tk lk kvs) ∧ SortOk (kvs.map (·.1)) ∧ newL (sortU (kvs.map (·.1))) M q
theorem c_sorted (hc : X.calm = true) (hu : X.A.units + 64 < cLine) : CallR X (.builtin "sorted") (lowC X.K rSorted) :=
  callU (CallR.fz (CallR.or (call_sortT hu) (CallR.or (call_sortK hc hu) (call_sortKT hc hu)))) fun us xs H M q Q rr m h P => by
    obtain ⟨u, rfl, h⟩ := one_inv h
    obtain ⟨v, rfl, r⟩ := rr.one_inv
    rcases h with ⟨ys, e, ok, h⟩ | ⟨a, tk, lk, kvs, rfl, e, ok, h⟩
    · obtain ⟨a, vs, rfl, s, r'⟩ := seqL_of m e r
      exact .inl ⟨a, ys, vs, rfl, s, r', ok, fun p ws hp rw' => newL_ok m rw' h P hp⟩
    · rw [rref r]
      cases tk with
      | false =>
        obtain ⟨l, hl, rp⟩ := m a _ e
        exact .inr (.inl ⟨a, kvs, l, rfl, hl.rd, rp, ok, fun p ws hp rw' => newL_ok m rw' h P hp⟩)
      | true =>
        obtain ⟨l, hl, rp⟩ := m a _ e
        exact .inr (.inr ⟨a, kvs, l, rfl, hl.rd, rp, ok, fun p ws hp rw' => newL_ok m rw' h P hp⟩)
end
end L3

set_option Elab.async false
set_option linter.all false
set_option maxRecDepth 100000
set_option maxHeartbeats 4000000
namespace L3
open PySem PySem.Spec L2
open PyProof.Rows hiding St
/-! ### dict(pairs) -/
def pairsU : List U → Option (List (U × U))
  | [] => some []
  | x :: r => match seqT x, pairsU r with
    | some [k, v], some ps => some ((k, v) :: ps)
    | _, _ => none
def mergeU (acc more : List (U × U)) : List (U × U) := more.foldl (fun acc p => dput acc p.1 p.2) acc
def mergeT (acc more : List (List Key × V)) : List (List Key × V) := more.foldl (fun acc p => putK acc p.1 p.2) acc
theorem mergeT_len : ∀ (more acc : List (List Key × V)), (mergeT acc more).length ≤ acc.length + more.length
  | [], acc => by simp [mergeT]
  | p :: more, acc => by
    have h := mergeT_len more (putK acc p.1 p.2)
    have h2 : (putK acc p.1 p.2).length ≤ acc.length + 1 := by
      unfold putK
      split
      · rw [List.length_map]; omega
      · rw [List.length_append]; simp
    show (mergeT (putK acc p.1 p.2) more).length ≤ _
    rw [List.length_cons]
    omega
theorem RepP.merge {K : Frag} {H : Hp} {κ : Type} [DecidableEq κ] {ku : κ → U} (inj : ∀ a b, ku a = ku b → a = b) : ∀ {more : List (U × U)} {lm : List (κ × V)} {acc : List (U × U)} {la : List (κ × V)}, RepP K H ku more lm → RepP K H ku acc la →
    RepP K H ku (mergeU acc more) (lm.foldl (fun acc p => putK acc p.1 p.2) la)
  | [], lm, acc, la, h, ha => by rw [h.nil_inv]; exact ha
  | p :: more, lm, acc, la, h, ha => by
    obtain ⟨e, r, rfl, h1, h2, h3⟩ := h.split
    show RepP K H ku (mergeU (dput acc p.1 p.2) more) (r.foldl (fun acc p => putK acc p.1 p.2) (putK la e.1 e.2))
    rw [h1]
    exact RepP.merge inj h3 (ha.put inj e.1 h2)
theorem KT.merge {H : Hp} : ∀ {lm : List (List Key × V)} {xm : List (List Key × Addr × Value)} {la : List (List Key × V)} {xa : List (List Key × Addr × Value)}, KT H lm xm → KT H la xa → KT H (mergeT la lm) (storedAllH xa xm) := by
  intro lm xm la xa h
  unfold KT at h
  induction h generalizing la xa with
  | nil => exact fun ha => ha
  | @cons p x ps xs h t ih =>
    intro ha
    obtain ⟨k, v⟩ := p
    obtain ⟨k', b, u⟩ := x
    obtain ⟨h1, h2, h3⟩ := h
    simp only at h1 h2 h3
    subst h1
    exact ih (KT.put ha k (b := b) h2 h3)
section
variable {X : Cx} {pins : List (Addr × Obj)} {σ : L2.St} {H : Hp} {s : Shared}
theorem pairs_lay (I : Inv X pins σ H s) : ∀ {xs : List U} {kvs : List (U × U)} {vs : List V} {its : List Value}, RepL X.K H xs vs → Vals vs its → pairsU xs = some kvs → (∀ p ∈ kvs, isKey true p.1 = true) →
    ∃ (l : List (List Key × V)) (ps : List (List Key × Addr × Value)), KT H l ps ∧ RepP X.K H keysU kvs l ∧ its.length = ps.length ∧ ∀ (j : Nat) (k v : Value), (ps.map fun x => (Value.ref x.2.1, x.2.2))[j]? = some (k, v) → ∃ T : Addr, its[j]? = some (Value.ref T) ∧ PairAt s.heap T k v
  | [], kvs, vs, its, rl, rv, h, _ => by
    simp only [RepL] at rl
    subst rl
    cases rv
    cases h
    exact ⟨[], [], .nil, RepP.nil, rfl, fun j k v e => by simp at e⟩
  | x :: xs, kvs, vs, its, rl, rv, h, hk => by
    unfold pairsU at h
    simp only [RepL] at rl
    obtain ⟨w, r, rfl, r1, r2⟩ := rl
    split at h
    · rename_i k v ps0 e1 e2
      cases h
      cases rv with
      | cons ra rb =>
        rename_i iv its
        obtain ⟨l, ps, q1, q2, q3, q4⟩ := pairs_lay I r2 rb e2 fun p hp => hk p (List.mem_cons_of_mem _ hp)
        have hk0 := hk (k, v) (List.mem_cons_self ..)
        cases k with
        | kt ks =>
          obtain ⟨ks', rfl⟩ := flatKs_key (show ks.all flatK = true from hk0)
          obtain ⟨T, ws, rfl, st, rw'⟩ := seqT_of e1 r1
          cases ra
          obtain ⟨y, z, rfl, ry, rz⟩ := rw'.two_inv
          simp only [Rep] at ry
          obtain ⟨b, bs, rfl, hb, rbs⟩ := ry
          rw [repL_keys rbs] at hb
          obtain ⟨tits, trv, tp, _⟩ := I.tuple st
          cases trv with
          | cons t1 t2 =>
            rename_i v1 l1
            cases t2 with
            | cons t3 t4 =>
              rename_i v2 l2
              cases t4
              cases t1
              refine ⟨(ks', z) :: l, (ks', b, v2) :: ps, .cons ⟨rfl, hb, t3⟩ q1, RepP.cons (p := (keysU ks', v)) (e := (ks', z)) rfl rz q2, by simp [q3], fun j k v e => ?_⟩
              cases j with
              | zero =>
                simp only [List.map_cons, List.getElem?_cons_zero] at e
                cases e
                exact ⟨T, rfl, .inl tp⟩
              | succ j =>
                simp only [List.map_cons, List.getElem?_cons_succ] at e
                obtain ⟨T', e3, e4⟩ := q4 j k v e
                exact ⟨T', by simpa using e3, e4⟩
        | _ => cases hk0
    · cases h
theorem call_dictT (hc : X.calm = true) (hu : X.A.units + 64 < cLine) : CallR X (.type "dict") (fun xs H Q => ∃ a us kvs vs, xs = [.ref a] ∧ SqL X.K H a vs ∧ RepL X.K H us vs ∧ pairsU us = some kvs ∧ (∀ p ∈ kvs, isKey true p.1 = true) ∧
    ∀ p l, H p = none → RepP X.K H keysU (mergeU [] kvs) l → Q (.ref p) (upd H p (.dT l))) := by
  intro pins s σ H xs uu Q I r h
  obtain ⟨a, us, kvs, vs, rfl, hs, rl, hp, hk, q⟩ := h
  obtain ⟨u, rfl, rx⟩ := vals1 r
  cases rx
  obtain ⟨its, rv, pl, hz⟩ := I.list hs
  obtain ⟨l, ps, q1, q2, q3, q4⟩ := pairs_lay I rl rv hp hk
  obtain ⟨o, n, ho, hcl, hd, hdat⟩ := pl
  have hlen : ps.length ≤ sizeLine := by rw [← q3, ← rv.length]; exact hz
  let Ts : Nat → Addr := fun j => match its[j]? with
    | some (.ref T) => T
    | _ => 0
  have pi : PairItems s.heap its.toArray Ts (ps.map fun x => (Value.ref x.2.1, x.2.2)) := by
    refine ⟨by simp [q3], fun j k v e => ?_⟩
    obtain ⟨T, e1, e2⟩ := q4 j k v e
    have eT : Ts j = T := by show (match its[j]? with | some (.ref T) => T | _ => 0) = T; rw [e1]
    rw [eT]
    exact ⟨by simpa using e1, e2⟩
  have his : ∀ x ∈ ps, (tupleKind (mixKind X.prog X.w)).is s.heap x.1 x.2.1 := by
    have all : ∀ {l : List (List Key × V)} {m : List (List Key × Addr × Value)}, KT H l m → ∀ x ∈ m, (tupleKind (mixKind X.prog X.w)).is s.heap x.1 x.2.1 := by
      intro l m q
      induction q with
      | nil => intro x hx; exact nomatch hx
      | @cons p q ps qs hq t ih =>
        intro x hx
        rcases List.mem_cons.mp hx with e | hx
        · subst e
          exact key_of I.hok (by rw [← hq.1]; exact hq.2.1)
        · exact ih x hx
    exact all q1
  refine call_dict_pairsH (knd := tupleKind (mixKind X.prog X.w)) (ps := ps) (PairArg.list a its.toArray Ts (ps.map fun x => (Value.ref x.2.1, x.2.2))) (I.ok.hd hc) (tupleKind_room_in1 (A := X.A.in1) (by show X.A.units + 1 + 1 < cLine; omega)) ⟨⟨o, n, ho, hcl, hd, hdat⟩, pi⟩ ⟨by simp, fun i key v e => ?_⟩ (fun h' hk' x hx => ?_) (by simpa using hlen) fun h' tk hd' hk' => ?_
  · have e' : (ps.map fun x => (Value.ref x.2.1, x.2.2))[i]? = some (key, v) := e
    rw [List.getElem?_map] at e'
    cases ex : ps[i]? with
    | none => rw [ex] at e'; cases e'
    | some x =>
      rw [ex] at e'
      cases e'
      exact ⟨x.1, x.2.1, rfl, rfl⟩
  · obtain ⟨o', items, n', ho', h2, h3, h4⟩ := his x hx
    exact ⟨o', items, n', hk' _ _ (Nat.ne_of_lt (Heap.lt_size ho')) (fun z => nomatch z) ho', h2, h3, h4⟩
  · have hm : (s.heap.objs.size == sysModules) = false := beq_eq_false_iff_ne.mpr (Nat.ne_of_gt I.big)
    have lk : l.length = ps.length := Paired.length q1
    have hl2 : (mergeT [] l).length ≤ sizeLine := by
      have := mergeT_len l []
      simp at this
      omega
    obtain ⟨o2, es, ep, hq, h2, h3, h4, _, h5⟩ := hd'
    have km := (KT.merge q1 (H := H) (la := []) (xa := []) .nil)
    exact ⟨.ref s.heap.objs.size, upd H s.heap.objs.size (.dT (mergeT [] l)), I.laid (t' := tk) (fun b o e => hk' b o (fun z => nomatch z) e) (Nat.le_refl _)
      (show ObjOk X.prog X.w _ _ _ (.dT (mergeT [] l)) from ⟨hl2, hm, storedAllH [] ps, km.keeps (fun c ys ec => by rw [upd_ne (ne_of_none ec I.fresh)]; exact ec), o2, es, ep, hq, h2, h3, h4, h5⟩), rfl,
      q _ _ (I.hok.fresh (Nat.le_refl _)) (q2.merge (fun _ _ => keysU_inj) RepP.nil)⟩
/-- the same, keys ints and texts -/
theorem pairs_layK {K : Frag} {H : Hp} : ∀ {xs : List U} {kvs : List (U × U)} {vs : List V}, RepL K H xs vs → pairsU xs = some kvs → (∀ p ∈ kvs, isKey false p.1 = true) →
    ∃ (l : List (Key × V)) (ps : List Addr), vs = ps.map V.ref ∧ Paired (fun p kv => SqT K H p [kV kv.1, kv.2]) ps l ∧ RepP K H keyU kvs l
  | [], kvs, vs, rl, h, _ => by
    simp only [RepL] at rl
    subst rl
    cases h
    exact ⟨[], [], rfl, .nil, RepP.nil⟩
  | x :: xs, kvs, vs, rl, h, hk => by
    unfold pairsU at h
    simp only [RepL] at rl
    obtain ⟨w, r, rfl, r1, r2⟩ := rl
    split at h
    · rename_i k v ps0 e1 e2
      cases h
      obtain ⟨l, ps, rfl, q2, q3⟩ := pairs_layK r2 e2 fun p hp => hk p (List.mem_cons_of_mem _ hp)
      obtain ⟨k', rfl⟩ := flatK_key (hk (k, v) (List.mem_cons_self ..))
      obtain ⟨T, ws, rfl, st, rw'⟩ := seqT_of e1 r1
      obtain ⟨y, z, rfl, ry, rz⟩ := rw'.two_inv
      have ey := rep_key ry
      subst ey
      exact ⟨(k', z) :: l, T :: ps, rfl, .cons st q2, RepP.cons (p := (keyU k', v)) (e := (k', z)) rfl rz q3⟩
    · cases h
/-- dict(..): of pairs (a list) -/
def rDict : RC' := fun us M q => one us fun u => ∃ xs kvs, seqL M u = some xs ∧ pairsU xs = some kvs ∧ ∃ tk, (∀ p ∈ kvs, isKey tk p.1 = true) ∧ ∀ p, M p = none → q (.ref p) (put M p (.dic tk false (mergeU [] kvs)))
theorem c_dict (hc : X.calm = true) (hu : X.A.units + 64 < cLine) : CallR X (.type "dict") (lowC X.K rDict) := callU (CallR.or (call_dictP hc) (call_dictT hc hu)) fun us xs H M q Q rr m h P => by
  obtain ⟨u, rfl, ys, kvs, e, hp, tk, hk, h⟩ := one_inv h
  obtain ⟨v, rfl, r⟩ := rr.one_inv
  obtain ⟨a, vs, rfl, s, r'⟩ := seqL_of m e r
  cases tk with
  | false =>
    obtain ⟨l, ps, rfl, q2, q3⟩ := pairs_layK r' hp hk
    refine .inl ⟨a, ps, l, rfl, s, q2, fun p hp => P _ _ (h p (m.fresh hp)) _ _ .r (m.new hp ⟨_, upd_same, ?_⟩) (.new hp)⟩
    exact (q3.merge (fun _ _ => keyU_inj) RepP.nil).keep (.new hp)
  | true => exact .inr ⟨a, ys, kvs, vs, rfl, s, r', hp, hk, fun p l hp rp => P _ _ (h p (m.fresh hp)) _ _ .r (m.new hp ⟨l, upd_same, rp.keep (.new hp)⟩) (.new hp)⟩
end
end L3

set_option Elab.async false
set_option linter.all false
set_option maxRecDepth 100000
set_option maxHeartbeats 4000000
namespace L3
open PySem PySem.Spec L2
open PyProof.Rows hiding St
/-! ### * -/
/-- a text n times -/
def repS (x : Str) (n : Nat) : Str := ⟨(List.replicate n x.cps.toList).flatten.toArray⟩
theorem foldl_app (a : Array Nat) : ∀ (n : Nat) (b : Array Nat), (List.replicate n a).foldl (· ++ ·) b = b ++ (List.replicate n a.toList).flatten.toArray
  | 0, b => by simp
  | n + 1, b => by
    rw [List.replicate_succ, List.foldl_cons, foldl_app a n, List.replicate_succ, List.flatten_cons]
    apply Array.toList_inj.mp
    simp
theorem repS_eq (x : Str) (n : Nat) : (⟨(List.replicate n x.cps).foldl (· ++ ·) #[]⟩ : Str) = repS x n := by
  unfold repS
  rw [foldl_app]
  simp
theorem repS_one (x : Str) : repS x 1 = x := by
  unfold repS
  cases x
  simp
theorem repS_zero (x : Str) : repS x 0 = PySem.Str.empty := rfl
theorem repS_empty {x : Str} (h : x.length = 0) (n : Nat) : repS x n = x := by
  have e : x.cps = #[] := Array.eq_empty_of_size_eq_zero h
  have : x = ⟨#[]⟩ := by cases x; simp at e; rw [e]
  subst this
  unfold repS
  congr 1
  induction n with
  | zero => rfl
  | succ n ih =>
    apply Array.toList_inj.mp
    simp
theorem repS_len (x : Str) (n : Nat) : (repS x n).length = n * x.length := by
  unfold repS PySem.Str.length
  simp
/-- a text times an int -/
theorem op_repS {X : Cx} : OpR X (binaryOp .Mult) (fun x y H Q => ∃ (z : Str) (k : Int), x = .str z ∧ y = .int k ∧ -1000000 ≤ k ∧ k ≤ 1000000 ∧ z.length * k.toNat ≤ 10000000 ∧ Q (.str (repS z k.toNat)) H) := by
  intro pins s σ H x y v u Q I rx ry h
  obtain ⟨z, k, rfl, rfl, h1, h2, h3, q⟩ := h
  obtain ⟨t, rfl⟩ := rx
  obtain ⟨t2, rfl⟩ := ry
  have hs : (sizeLine : Nat) = 16777216 := by decide
  refine P.mul_str (by rw [decide_eq_false (by omega), decide_eq_false (by omega)]; rfl) (fun hk hn => ?_) (fun hk hn => ?_) ?_
  · have hk1 : k ≠ 1 := by intro e; subst e; simp at hn
    have hz : z.length ≤ 10000000 := by
      have : z.length * 1 ≤ z.length * k.toNat := Nat.mul_le_mul_left _ (by omega)
      omega
    have : (10000000 : Int) ≤ (2 ^ 63 - 1) / k := by
      rw [Int.le_ediv_iff_mul_le (by omega)]
      omega
    omega
  · unfold Builtin.Str.tooLong
    exact decide_eq_false (by rw [hs]; omega)
  · by_cases hk : k < 1
    · rw [if_pos hk]
      have e : k.toNat = 0 := by omega
      rw [e, repS_zero] at q
      exact ⟨by decide, ⟨.str PySem.Str.empty, H, I.tok _, ⟨_, rfl⟩, q⟩⟩
    · rw [if_neg hk]
      by_cases hn : (k == 1 || z.length == 0) = true
      · rw [if_pos hn]
        have e : repS z k.toNat = z := by
          simp only [Bool.or_eq_true, beq_iff_eq] at hn
          rcases hn with hn | hn
          · rw [hn]; exact repS_one z
          · exact repS_empty hn _
        rw [e] at q
        exact ⟨.str z, H, I, ⟨_, rfl⟩, q⟩
      · rw [if_neg hn, repS_eq]
        exact ⟨by rw [repS_len, Nat.mul_comm]; omega, ⟨.str _, H, I.tok _, ⟨_, rfl⟩, q⟩⟩
def rMul' : R2' := fun x y M q => match x with
  | .str z => match y with
    | .int k => -1000000 ≤ k ∧ k ≤ 1000000 ∧ z.length * k.toNat ≤ 10000000 ∧ q (.str (repS z k.toNat)) M
    | _ => False
  | .int i => match y with
    | .int j => IntMulOk i j ∧ q (.int (i * j)) M
    | _ => False
  | .ref a => match y with
    | .int k => ∃ xs, M a = some (.lst xs) ∧ -(2 ^ 63) ≤ k ∧ k < 2 ^ 63 ∧ xs.length * k.toNat ≤ sizeLine ∧ newL (List.replicate k.toNat xs).flatten M q
    | _ => False
  | _ => False
theorem RepL.rep {K : Frag} {H : Hp} {us : List U} {vs : List V} (h : RepL K H us vs) : ∀ n, RepL K H (List.replicate n us).flatten (List.replicate n vs).flatten
  | 0 => .nil
  | n + 1 => by
    rw [List.replicate_succ, List.replicate_succ, List.flatten_cons, List.flatten_cons]
    exact h.app (RepL.rep h n)
section
variable {X : Cx} {pos p2 : Pos} {e o f : Expr} {te to tf : TE'}
theorem o_mul : OpR X (binaryOp .Mult) (lowR X.K rMul') := opU (op_repS.or (op_mulOk.or (OpR.fz op_rep))) fun u w x y H M q Q ru rw' m hq P => by
  cases u with
  | str z => cases w with
    | int k => exact .inl ⟨z, k, rstr ru, rint rw', hq.1, hq.2.1, hq.2.2.1, P.val hq.2.2.2 m .s⟩
    | _ => exact (show False from hq).elim
  | int i => cases w with
    | int j => exact .inr (.inl ⟨i, j, rint ru, rint rw', hq.1, P.val hq.2 m .i⟩)
    | _ => exact (show False from hq).elim
  | ref a => cases w with
    | int k =>
      obtain ⟨xs, e, h1, h2, h3, h⟩ := hq
      obtain ⟨vs, e1, r⟩ := m a _ e
      exact .inr (.inr ⟨a, k, vs, rref ru, rint rw', e1, h1, h2, by rw [← r.len]; exact h3, fun p hp => newL_ok m (r.rep k.toNat) h P hp⟩)
    | _ => exact (show False from hq).elim
  | _ => exact (show False from hq).elim
/-! ### in -/
def inQ (f : Bool → Bool) (xs : List U) (x : U) (M : Mp) (q : QK) : Prop := ∃ d ds, dM M x = some d ∧ dTs xs = some ds ∧ okD d ∧ okD (.list ds) ∧ q (.bl (f (ds.any fun z => PyData.eqv z d))) M
def rIn (f : Bool → Bool) : R2' := fun x y M q => match y with
  | .str z => ∃ c, x = .str ⟨#[c]⟩ ∧ q (.bl (f (decide (c ∈ z.cps.toList)))) M
  | .lst xs => inQ f xs x M q
  | .ref a => asL M a (fun xs => inQ f xs x M q) fun tk _ kvs => isKey tk x = true ∧ q (.bl (f (dlook kvs x).isSome)) M
  | _ => False
theorem op_inDict (hu : X.A.units + 1 < cLine) : OpR X (compareOp .In) (fun x y H Q => ∃ a o, y = .ref a ∧ DGet H a x o ∧ Q (.bl o.isSome) H) := by
  intro pins s σ H x y v u Q I rx ry h
  obtain ⟨a, o, rfl, g, q⟩ := h
  cases ry
  exact d_in hu I g rx fun s' I' => ⟨.bl _, H, I', rfl, q⟩
theorem op_notInDict (hu : X.A.units + 1 < cLine) : OpR X (compareOp .NotIn) (fun x y H Q => ∃ a o, y = .ref a ∧ DGet H a x o ∧ Q (.bl (!o.isSome)) H) := by
  intro pins s σ H x y v u Q I rx ry h
  obtain ⟨a, o, rfl, g, q⟩ := h
  cases ry
  exact d_notIn hu I g rx fun s' I' => ⟨.bl _, H, I', rfl, q⟩
theorem RepO.some_eq {K : Frag} {H : Hp} {u : Option U} {o : Option V} (h : RepO K H u o) : o.isSome = u.isSome := by
  cases u <;> cases o <;> first | rfl | exact (show False from h).elim
theorem low_in {f : Bool → Bool} {rD rS rT : R2} (hT : ∀ x y H Q c z, x = V.str ⟨#[c]⟩ → y = V.str z → Q (.bl (f (decide (c ∈ z.cps.toList)))) H → rT x y H Q) (hD : ∀ x y H Q a o, y = V.ref a → DGet H a x o → Q (.bl (f o.isSome)) H → rD x y H Q)
    (hS : ∀ x y H Q d ds, Dp X.K H x d → Dp X.K H y (.list ds) → SeqAt.shaped d = true → SeqAt.shaped (.list ds) = true → Q (.bl (f (ds.any fun z => PyData.eqv z d))) H → rS x y H Q) :
    ∀ u w x y H M q Q, Rep X.K H u x → Rep X.K H w y → RM X.K H M → rIn f u w M q → Post X.K H M q Q → rT x y H Q ∨ rD x y H Q ∨ rS x y H Q := by
  intro u w x y H M q Q ru rw' m h P
  have lst : ∀ {ys : List U}, seqL M w = some ys → inQ f ys u M q → rS x y H Q := fun {ys} e hq => by
    obtain ⟨d, ds, e1, e2, o1, o2, hq⟩ := hq
    obtain ⟨a, vs, rfl, s, r⟩ := seqL_of m e rw'
    exact hS _ _ _ _ d ds (dM_ok m e1 ru) (.lst s (dTs_ok e2 r)) o1 o2 (P.val hq m .b)
  cases w with
  | str z =>
    obtain ⟨c, rfl, hq⟩ := h
    exact .inl (hT _ _ _ _ c z (rstr ru) (rstr rw') (P.val hq m .b))
  | lst ys => exact .inr (.inr (lst rfl h))
  | ref a =>
    rcases asL_inv (show asL M a _ _ from h) with ⟨ys, e, hq⟩ | ⟨tk, lk, kvs, e, hk, hq⟩
    · exact .inr (.inr (lst (by show (match M a with | some (.lst xs) => some xs | _ => none) = some ys; rw [e]) hq))
    · obtain ⟨o, g, ro⟩ := dget_of m e hk ru
      exact .inr (.inl (hD _ _ _ _ a o (rref rw') g (by rw [ro.some_eq]; exact P.val hq m .b)))
  | _ => exact (show False from h).elim
theorem o_in (hu : X.A.units + 65 < cLine) : OpR X (compareOp .In) (lowR X.K (rIn id)) := opU (op_in_sign.or ((op_inDict (by omega)).or (op_inD hu)))
  (low_in (f := id) (fun x y H Q c z e1 e2 q => ⟨c, z, e1, e2, q⟩) (fun x y H Q a o e g q => ⟨a, o, e, g, q⟩) fun x y H Q d ds h1 h2 h3 h4 q => ⟨d, ds, h1, h2, h3, h4, q⟩)
theorem o_notIn (hu : X.A.units + 65 < cLine) : OpR X (compareOp .NotIn) (lowR X.K (rIn not)) := opU (op_notIn_sign.or ((op_notInDict (by omega)).or (op_notInD hu)))
  (low_in (f := not) (fun x y H Q c z e1 e2 q => ⟨c, z, e1, e2, q⟩) (fun x y H Q a o e g q => ⟨a, o, e, g, q⟩) fun x y H Q d ds h1 h2 h3 h4 q => ⟨d, ds, h1, h2, h3, h4, q⟩)
/-! ### d.get(k, x) -/
def eGet (td ty tx : TE') : TE' := fun z M q => td z M fun d M1 => ∃ a tk lk kvs, d = .ref a ∧ M1 a = some (.dic tk lk kvs) ∧ ty z M1 fun y M2 => tx z M2 fun x M3 => ∃ tk lk kvs, M3 a = some (.dic tk lk kvs) ∧ isKey tk y = true ∧ q ((dlook kvs y).getD x) M3
theorem qe_dget {apos cpos : Pos} {td ty tx : TE'} (hu : X.A.units + 1 < cLine) (ho : QE X o td) (he : QE X e ty) (hf : QE X f tx) (m : M2 X o "get" apos e f cpos := by exact ⟨rfl, rfl, rfl, rfl⟩) :
    QE X (.Call (.Attribute o "get" apos) [e, f] [] cpos) (eGet td ty tx) := imE (pe_dget2 hu ho he hf m) fun σ H Q ⟨z, M, q, rs, m, h, P⟩ =>
  ⟨z, M, _, rs, m, h, fun d M1 h1 v H1 r1 m1 k1 => by
    obtain ⟨a, tk, lk, kvs, rfl, ea, h2⟩ := h1
    refine ⟨a, rref r1, ?_, z, M1, _, rs.keep k1.tk, m1, h2, fun y M2 h3 vy H2 ry m2 k2 => ⟨z, M2, _, (rs.keep k1.tk).keep k2.tk, m2, h3, fun x M3 h4 vx H3 rx m3 k3 => ?_⟩⟩
    · cases tk with
      | false => obtain ⟨l, hl, _⟩ := m1 a _ ea; exact .inl ⟨l, hl.rd⟩
      | true => obtain ⟨l, hl, _⟩ := m1 a _ ea; exact .inr ⟨l, hl.rd⟩
    · obtain ⟨tk', lk', kvs', eb, hk, hq⟩ := h4
      obtain ⟨o, g, ro⟩ := dget_of m3 eb hk (ry.keep k3.tk)
      refine ⟨o, g, ?_⟩
      have P3 := P.step ((k1.trans k2).trans k3)
      cases e1 : dlook kvs' y with
      | none =>
        rw [e1] at ro hq
        rw [ro.none]
        exact P3.val hq m3 rx
      | some w =>
        rw [e1] at ro hq
        obtain ⟨v, rfl, rv⟩ := ro.get
        exact P3.val hq m3 rv⟩
/-! ### slices -/
def cutU (xs : List U) (lo hi : Option Int) : List U := (xs.drop (HT.sIx xs.length 0 lo)).take (HT.sIx xs.length xs.length hi - HT.sIx xs.length 0 lo)
theorem RepL.cut {K : Frag} {H : Hp} {us : List U} {vs : List V} (r : RepL K H us vs) (lo hi : Option Int) : RepL K H (cutU us lo hi) (cutV vs lo hi) := by
  unfold cutU cutV
  rw [r.len]
  exact (r.drop _).take _
abbrev TO' := SL → Mp → (Option Int → Mp → Prop) → Prop
def PostO (K : Frag) (H : Hp) (M : Mp) (q : Option Int → Mp → Prop) (Q : Option Int → Hp → Prop) : Prop := ∀ o M', q o M' → ∀ H', RM K H' M' → SK H M H' M' → Q o H'
def lowO (K : Frag) (t : TO') : TO := fun σ H Q => ∃ z M q, RS K H σ z ∧ RM K H M ∧ t z M q ∧ PostO K H M q Q
def QO (X : Cx) (e : Option Expr) (t : TO') : Prop := PO X e (lowO X.K t)
theorem imO {e : Option Expr} {t t' : TO} (h : PO X e t) (k : ∀ σ H Q, t' σ H Q → t σ H Q) : PO X e t' := ⟨fun pins s σ H Q I w => h.run pins s σ H Q I (k σ H Q w)⟩
def oNo : TO' := fun _ M q => q none M
def oPart (t : TE') : TO' := fun z M q => t z M fun x M1 => asI x fun i => q (some i) M1
theorem qo_none : QO X none oNo := imO po_none fun σ H Q ⟨z, M, q, rs, m, h, P⟩ => P _ _ h H m (.refl H M)
theorem qo_some (h : QE X e te) : QO X (some e) (oPart te) := imO (po_some h) fun σ H Q ⟨z, M, q, rs, m, h, P⟩ =>
  ⟨z, M, _, rs, m, h, fun x M1 h1 v H1 r1 m1 k1 => by
    obtain ⟨i, rfl, h2⟩ := asI_inv h1
    exact ⟨i, rint r1, P _ _ h2 H1 m1 k1⟩⟩
/-- a slice: of a list (a new one), of a tuple, of a text -/
def eSl (te : TE') (tl th : TO') : TE' := fun z M q => te z M fun x M1 => tl z M1 fun l M2 => th z M2 fun h M3 => match x with
  | .str s => s.length ≤ sizeLine ∧ q (.str (Txt.slice s l h)) M3
  | x => match seqT x with
    | some xs => q (.tup (cutU xs l h)) M3 ∨ (¬ (HT.sIx xs.length 0 l = 0 ∧ HT.sIx xs.length xs.length h = xs.length) ∧ q (.kt (cutU xs l h)) M3)
    | none => ∃ xs, seqL M3 x = some xs ∧ newL (cutU xs l h) M3 q
theorem slFz {r : V → Option Int → Option Int → Hp → VK → Prop} (h : SlR X r) : SlR X (fun x lo hi H Q => r x lo hi H (L3.fz Q)) := by
  intro pins s σ H x v vl vu lo hi sl Q I rx hs pl pu q
  obtain ⟨T, id, h1, h2, h3⟩ := h pins s σ H x v vl vu lo hi sl (L3.fz Q) I rx hs pl pu q
  exact ⟨T, id, h1, h2, thn h3 fun _ _ e => EP.fz e⟩
theorem qe_slice {lo hi : Option Expr} {tl th : TO'} (he : QE X e te) (hl : QO X lo tl) (hh : QO X hi th) : QE X (.Subscript e (.Slice lo hi none p2) pos) (eSl te tl th) :=
  imE (pe_slice (SlR.or (slFz sl_list) (SlR.or sl_tupA C8.sl_txt)) he hl hh) fun σ H Q ⟨z, M, q, rs, m, h, P⟩ =>
  ⟨z, M, _, rs, m, h, fun x M1 h1 v H1 r1 m1 k1 => ⟨z, M1, _, rs.keep k1.tk, m1, h1, fun l M2 h2 H2 m2 k2 => ⟨z, M2, _, (rs.keep k1.tk).keep k2.tk, m2, h2, fun u M3 h3 H3 m3 k3 => by
    have r3 := (r1.keep k2.tk).keep k3.tk
    have P3 := P.step ((k1.trans k2).trans k3)
    have lst : (∃ xs, seqL M3 x = some xs ∧ newL (cutU xs l u) M3 q) → rSlL X.K v l u H3 (fz Q) := fun ⟨xs, e, hq⟩ => by
      obtain ⟨a, vs, rfl, s, r⟩ := seqL_of m3 e r3
      exact ⟨a, vs, rfl, s, fun p hp => newL_ok m3 (r.cut l u) hq P3 hp⟩
    have tup : ∀ {xs : List U}, seqT x = some xs → (q (.tup (cutU xs l u)) M3 ∨ (¬ (HT.sIx xs.length 0 l = 0 ∧ HT.sIx xs.length xs.length u = xs.length) ∧ q (.kt (cutU xs l u)) M3)) → rSlA X.K v l u H3 Q := fun {xs} e hq => by
      obtain ⟨a, vs, rfl, s, r⟩ := seqT_of e r3
      refine ⟨a, vs, rfl, s, fun hw => ?_, fun hw p hp => ?_⟩
      · have ec : cutU xs l u = xs := by
          unfold cutU
          rw [← r.len] at hw
          rw [hw.1, hw.2]
          simp
        rcases hq with hq | ⟨hn, hq⟩
        · refine P3.val hq m3 ?_
          rw [ec]
          simp only [Rep]
          exact ⟨a, vs, rfl, s, r⟩
        · rw [← r.len] at hw
          exact absurd hw hn
      · rcases hq with hq | ⟨hn, hq⟩
        · exact newT_ok m3 (r.cut l u) (.inl hq) P3 hp
        · exact newT_ok m3 (r.cut l u) (.inr hq) P3 hp
    cases x with
    | str s => exact .inr (.inr ⟨s, rstr r3, h3.1, P3.val h3.2 m3 .s⟩)
    | tup xs => exact .inr (.inl (tup rfl h3))
    | kt xs => exact .inr (.inl (tup rfl h3))
    | _ => exact .inl (lst h3)⟩⟩⟩
/-- xs[::-1] -/
def eRev (te : TE') : TE' := fun z M q => te z M fun x M1 => ∃ xs, seqL M1 x = some xs ∧ newL xs.reverse M1 q
theorem qe_rev {k : Nat} {p1 p2 p3 : Pos} (he : QE X e te) : QE X (.Subscript e (.Slice none none (some (.UnaryOp .USub (.Constant (.int 1) k p1) p2)) p3) pos) (eRev te) := imE (PE.fz (t := tRevL X.K (lowE X.K te)) (pe_revL he)) fun σ H Q ⟨z, M, q, rs, m, h, P⟩ =>
  ⟨z, M, _, rs, m, h, fun x M1 h1 v H1 r1 m1 k1 => by
    obtain ⟨xs, e, hq⟩ := h1
    obtain ⟨a, vs, rfl, s, r⟩ := seqL_of m1 e r1
    exact ⟨a, vs, rfl, s, fun p hp => newL_ok m1 r.rev hq (P.step k1) hp⟩⟩
end
end L3

set_option Elab.async false
set_option linter.all false
set_option maxRecDepth 100000
set_option maxHeartbeats 4000000
namespace L3
open PySem PySem.Spec L2
open PyProof.Rows hiding St
/-! ### the law itself, from its promise over trees -/
/-- the script as a tree -/
def scriptU (ns : List Int) : U := .lst (ns.map U.int)
theorem repL_int {K : Frag} {H : Hp} : ∀ ns : List Int, RepL K H (ns.map U.int) (ns.map V.int)
  | [] => .nil
  | _ :: ns => .cons .i (repL_int ns)
def noM : Mp := fun _ => none
section
variable {P : Program} {w : World} {K : Frag} {mg mb : Str → Option Value} {k : Nat} {fa a : Addr} {fd : FuncData} {x : Str} {sp : Sp'} {s₁ : Shared} {vs : List Value} {ns : List Int}
/-- one heap of trees, of which the script is all -/
theorem law_from (H : Hp) (only : ∀ b u, H b = some u → b = a ∧ u = .frz { cls := .type "list", data := .seq vs.toArray } (.lst (ns.map V.int)))
    (kin : K.In s₁.heap) (glob : s₁.heap.Ns mainGlobals mg) (blt : s₁.heap.Ns builtinsNs mb) (blt2 : ∀ x : Str, x ≠ "__name__" → mb x = bootBuiltins x) (lim : s₁.heap.NoLimit) (nog : s₁.gens = #[])
    (obj : s₁.heap.get? a = some { cls := .type "list", data := .seq vs.toArray }) (hi : IntsAre vs ns) (hl : ns.length ≤ sizeLine) (room : Room k callerA)
    (F : ∀ base : Heap, K.In base → base.Ns mainGlobals mg → FnG P w K mg base k fa fd [x] (lowSp K sp)) (bind : ∀ (s : Shared) (u : Value), BindsTo s fd ⟨[u], []⟩ [(x, u)])
    (apart : ∀ b u, H b = some u → K.lookup b = none) (fz : FzL K H a (ns.map V.int)) (hsp : sp [scriptU ns] noM (fun u _ => u = .bl true) (fun _ _ _ => False)) :
    codeAny (model P w) callerA (.call (.ref fa) ⟨[.ref a], []⟩) (fun r s' => r = .ok (.ret (.bool true)) ∧ OldK s₁.heap s'.heap ∧ s'.os = s₁.os ∧ AllBare s'.gens) s₁ := by
  -- what isn't tracked stands in the base
  have stays : ∀ {b : Addr} {o : Obj}, s₁.heap.get? b = some o → (∀ u, H b = some u → False) → (hidT s₁.heap H).get? b = some o := by
    intro b o e nn
    refine hidT_get e ?_
    cases q : H b with
    | none => rfl
    | some u => exact (nn u q).elim
  have dictly : ∀ {b : Addr} {m : Str → Option Value}, s₁.heap.Ns b m → (hidT s₁.heap H).Ns b m := by
    rintro b m ⟨o, es, ep, e, d, r⟩
    refine ⟨o, es, ep, stays e fun u q => ?_, d, r⟩
    have h1 := (only b u q).1
    rw [h1, obj] at e
    cases e
    exact nomatch (show Data.seq vs.toArray _ = Data.dict es ep from d)
  have kinB : K.In (hidT s₁.heap H) := by
    intro b o e
    refine stays (kin b o e) fun u q => ?_
    rw [apart b u q] at e
    cases e
  have hokH : HOk P w H s₁.heap := by
    intro b u q
    obtain ⟨rfl, rfl⟩ := only b u q
    exact ⟨obj, by rw [List.length_map]; exact hl, vs, _, vals_ints hi, obj⟩
  have env : Env0 P w K mg (hidT s₁.heap H) callerA [] s₁ H :=
    { frames := rfl, mod := { kin := kinB, glob := dictly glob, blt := ⟨mb, dictly blt, blt2⟩, nolimit := by obtain ⟨mc, h1, h2⟩ := lim; exact ⟨mc, dictly h1, h2⟩ },
      bs := fun b o e => of_hidT e, bsz := Nat.le_of_eq (hidT_size _ _), funs := trivial, frf := fun b hb => (nomatch hb), hok := hokH, bare := .of_eq nog }
  have vals : Vals [V.ref a] [Value.ref a] := .cons rfl .nil
  have start : lowSp K sp [V.ref a] H (fun v _ => v = .bl true) (fun _ _ _ => False) := by
    refine ⟨[scriptU ns], noM, _, _, .cons ?_ .nil, (fun b o e => by cases (show (none : Option MO) = some o from e)), hsp, ?_, ?_⟩
    · unfold scriptU
      simp only [Rep]
      exact ⟨a, _, rfl, fz, repL_int ns⟩
    · intro u M' eu v H' r _ _
      subst eu
      exact rbl r
    · intro C fs M' f
      exact f.elim
  have ran := (F _ kinB (dictly glob)).run callerA [] s₁ H ⟨[.ref a], []⟩ [.ref a] [.ref a] _ _ room rfl env (bind s₁ (.ref a)) vals start
  refine codeAny_mono ran fun r s' h => ?_
  match r, h with
  | .error e, h =>
    obtain ⟨_, _, _, _, _, _, _, _, _, _, _, _, f⟩ := h
    exact f.elim
  | .ok .next, h => exact False.elim h
  | .ok .brk, h => exact False.elim h
  | .ok .cont, h => exact False.elim h
  | .ok (.ret u), h =>
    obtain ⟨v, H', os, bare, un, hok', rv, q⟩ := h
    have q' : v = .bl true := q
    subst q'
    have eu : u = Value.bool true := rv
    subst eu
    refine ⟨rfl, OldK.of_keep fun b o e => ?_, os, bare⟩
    cases q : H b with
    | none => exact un.keep b o e q (fun z => nomatch (show b ∈ ([] : List Addr) from z)) (fun z => nomatch z)
    | some u =>
      obtain ⟨rfl, rfl⟩ := only b u q
      have e2 := (hok' b _ (un.frzs b _ _ q)).1
      rw [obj] at e
      cases e
      exact e2
end
end L3

set_option Elab.async false
set_option linter.all false
set_option maxRecDepth 100000
set_option maxHeartbeats 4000000
namespace L3
open PySem PySem.Spec L2
open PyProof.Rows hiding St
/-! ### defs by where they stand -/
def noW : WX' := fun _ _ _ _ => False
theorem tk_no {X : Cx} : Takes X (lowW X.K noW) := by
  intro u s' hx
  obtain ⟨a, B, sI, pins, σ, H', cls, d, eu, I, nb, up, sky, na, os, ag, C, fs, z, M', xr, _, m', w'⟩ := hx
  exact w'.elim
structure Def' (P : Program) (w : World) (K : Frag) (mg : Str → Option Value) (base : Heap) (k : Nat) (f : Addr) (ps : List Str) (sp : Sp') : Prop where
  ex : ∃ fd, Binds K fd ps [] ∧ FnG P w K mg base k f fd ps (lowSp K sp)
  kp : PySem.W.keepIn K (.ref f) = true
theorem Def'.none {P : Program} {w : World} {K : Frag} {mg : Str → Option Value} {base : Heap} {k : Nat} {f : Addr} {ps : List Str} {fd : FuncData} (b : Binds K fd ps []) (kp : PySem.W.keepIn K (.ref f) = true) : Def' P w K mg base k f ps (fun _ _ _ _ => False) :=
  ⟨⟨fd, b, ⟨fun vs H Q E ⟨us, M, q, e, _, _, h, _⟩ => h.elim, fun A outer s H args us vs Q E _ _ _ _ _ ⟨_, _, _, _, _, _, h, _⟩ => h.elim⟩⟩, kp⟩
theorem fun_of {K : Frag} {x qual : Str} {st : Stmt} {f : Addr} {fd : FuncData} (F : FunD K x qual (defArgs st) (defBody st) (defScope st) [] [] f fd) : Fun K x qual st f fd := by
  obtain ⟨⟨oc, od, dV, kV, doc, pm, an, cdv, ct, osl, rfl, lk, hcd, hD, _⟩, kp⟩ := F
  rcases hD with ⟨_, rfl⟩ | ⟨e, _⟩
  · exact ⟨⟨oc, od, kV, doc, pm, an, cdv, ct, osl, rfl, lk, hcd⟩, kp⟩
  · exact absurd rfl e
theorem room65 {k : Nat} {A : Around} (r : Room k A) : A.units + 65 < cLine := by have := r.un; omega
section
variable {X : Cx} {k n : Nat} {f C : Addr} {ps : List Str} {x m : Str} {p pos apos : Pos} {e o : Expr} {es : List Expr} {sp : Sp'} {W : WX'} {ta : TA'} {to : TE'}
theorem qd_call (D : Def' X.prog X.w X.K X.mg X.base k f ps sp) (hr : Room n X.A) (hg : X.A.guards = some []) (tk : Takes X (lowW X.K W)) (hm : X.mg x = some (.ref f)) (ha : QA X (e :: es) ta) (hk : k ≤ n := by first | decide | omega) (hgl : Gl X x := by rfl) (hdb : (x == ("__debug__" : Str)) = false := by decide)
    (he : starEach (e :: es) X.env = (false, eval e X.env) :: starEach es X.env := by rfl) (hpl : (backTo pos (starEach es X.env)).any (·.1) = false := by rfl) : QE X (.Call (.Name x p) (e :: es) [] pos) (eCall sp W ta) := by
  obtain ⟨fd, b, F⟩ := D.ex
  exact qe_call F (hr.mono hk) hg tk hm D.kp b ha hgl hdb he hpl
theorem qd_call0 (D : Def' X.prog X.w X.K X.mg X.base k f ps sp) (hr : Room n X.A) (hg : X.A.guards = some []) (tk : Takes X (lowW X.K W)) (hm : X.mg x = some (.ref f)) (hk : k ≤ n := by first | decide | omega) (hgl : Gl X x := by rfl) (hdb : (x == ("__debug__" : Str)) = false := by decide) :
    QE X (.Call (.Name x p) [] [] pos) (eCall sp W eNil) := by
  obtain ⟨fd, b, F⟩ := D.ex
  exact qe_call0 F (hr.mono hk) hg tk hm D.kp b hgl hdb
theorem qd_meth {pl : Sem Bool} (D : Def' X.prog X.w X.K X.mg X.base k f ps sp) (hr : Room n X.A) (hg : X.A.guards = some []) (tk : Takes X (lowW X.K W)) (c : Cls X.K C) (hm : Meth X.K C m f) (ho : QE X o to) (ha : QA X (e :: es) ta) (hk : k ≤ n := by first | decide | omega)
    (hst : starEach (e :: es) X.env = (false, eval e X.env) :: starEach es X.env := by rfl) (hpl : (backTo pos (starEach es X.env)).any (·.1) = false := by rfl)
    (ht : eval (.Call (.Attribute o m apos) (e :: es) [] pos) X.env = (do
      let ov ← eval o X.env
      standAt apos.atName
      let (f, first) ← holding [ov] (getMethod ov m pl)
      callWith pos f first (backTo pos (starEach (e :: es) X.env)) (backToKw pos (keywordEach [] X.env))) := by rfl) : QE X (.Call (.Attribute o m apos) (e :: es) [] pos) (eMeth C m sp W to ta) := by
  obtain ⟨fd, b, F⟩ := D.ex
  exact qe_meth ho c hm F (hr.mono hk) hg tk b ha hst hpl ht
theorem qd_make (D : Def' X.prog X.w X.K X.mg X.base k f ps sp) (hr : Room n X.A) (hg : X.A.guards = some []) (tk : Takes X (lowW X.K W)) (hm : X.mg x = some (.ref C)) (mk : Mk X.K C f) (ha : QA X (e :: es) ta) (hk : k + 1 ≤ n := by first | decide | omega) (hgl : Gl X x := by rfl) (hdb : (x == ("__debug__" : Str)) = false := by decide)
    (he : starEach (e :: es) X.env = (false, eval e X.env) :: starEach es X.env := by rfl) (hpl : (backTo pos (starEach es X.env)).any (·.1) = false := by rfl) : QE X (.Call (.Name x p) (e :: es) [] pos) (eMake C sp W ta) := by
  obtain ⟨fd, b, F⟩ := D.ex
  exact qe_make mk F (hr.mono hk) hg tk hm b ha hgl hdb he hpl
end
def sNever : TS' := fun _ _ _ => False
theorem qs_never {X : Cx} {st : Stmt} : QS X st sNever := imS ps_never fun D σ H ⟨z, M, d, rs, m, h, P⟩ => h.elim
/-! ### the goal behind the head -/
theorem walk_treeE {l : PySem.W.OpenLaw} {n k : Nat} {q : Program} {loose : List Str} {XP : (Str → Option Value) → Heap → Prop} {YP : World → Heap → Prop} {d : DefRec} {x : Str}
    (hn : l.most = some n) (hn2 : n ≤ sizeLine) (hdf : d.params.defaults = []) (room : Room k callerA)
    (F : ∀ (w : World) (mg : Str → Option Value) (fa : Addr) (h : Heap), YP w h → h.Ns mainGlobals mg → mg d.name = some (.ref fa) →
      ∃ (K : Frag) (fd : FuncData) (sp : Sp'), K.In h ∧ (∀ (s : Shared) (u : Value), BindsTo s fd ⟨[u], []⟩ [(x, u)]) ∧ (∀ ns : List Int, ns.length ≤ n → sp [scriptU ns] noM (fun u _ => u = .bl true) (fun _ _ _ => False)) ∧
        ∀ base : Heap, K.In base → base.Ns mainGlobals mg → FnG l.prog w K mg base k fa fd [x] (lowSp K sp)) :
    PySem.W.WalkO q loose XP YP l.row.toRowW d [] (fun f vs => PySem.call f vs) := by
  refine Att.attach_call hn hdf ?_
  intro w s₀ s₁ mg mb fa o pm cd doc a vs ns G Y _ _ _ hmg obj its0 len nog
  obtain ⟨K, fd, sp, kin, bind, hsp, hF⟩ := F w mg fa _ Y G.T.g hmg
  have hl : ns.length ≤ sizeLine := Nat.le_trans len hn2
  cases lk : K.lookup a with
  | none =>
    refine law_from (fun b => if b = a then some (.frz { cls := .type "list", data := .seq vs.toArray } (.lst (ns.map V.int))) else none) (fun b u e => ?_) kin G.T.g G.T.b G.T.builtins G.T.nolimit nog obj its0 hl room hF bind (fun b u e => ?_) (.inl ⟨_, if_pos rfl⟩) (hsp ns len)
    · by_cases hb : b = a
      · rw [if_pos hb] at e
        exact ⟨hb, (Option.some.inj e).symm⟩
      · rw [if_neg hb] at e
        cases e
    · by_cases hb : b = a
      · rw [hb]; exact lk
      · rw [if_neg hb] at e
        cases e
  | some ob =>
    have same := (kin a ob lk).symm.trans obj
    cases same
    have rv := vals_ints its0
    refine law_from (fun _ => none) (fun _ _ e => nomatch e) kin G.T.g G.T.b G.T.builtins G.T.nolimit nog obj its0 hl room hF bind (fun _ _ e => nomatch e) (.inr ⟨_, vs.toArray, _, lk, rfl, rfl, rfl, ?_, by simpa using rv⟩) (hsp ns len)
    rw [List.size_toArray, its0.length]
    exact hl
end L3

set_option Elab.async false
set_option linter.all false
set_option maxRecDepth 100000
set_option maxHeartbeats 4000000
namespace L3
open PySem PySem.Spec L2
open PyProof.Rows hiding St
/-! ### built-in names -/
theorem bb_len : bootBuiltins "len" = some (.builtin "len") := by decide +kernel
theorem bb_isinstance : bootBuiltins "isinstance" = some (.builtin "isinstance") := by decide +kernel
theorem bb_min : bootBuiltins "min" = some (.builtin "min") := by decide +kernel
theorem bb_max : bootBuiltins "max" = some (.builtin "max") := by decide +kernel
theorem bb_sum : bootBuiltins "sum" = some (.builtin "sum") := by decide +kernel
theorem bb_abs : bootBuiltins "abs" = some (.builtin "abs") := by decide +kernel
theorem bb_any : bootBuiltins "any" = some (.builtin "any") := by decide +kernel
theorem bb_all : bootBuiltins "all" = some (.builtin "all") := by decide +kernel
theorem bb_sorted : bootBuiltins "sorted" = some (.builtin "sorted") := by decide +kernel
theorem bb_repr : bootBuiltins "repr" = some (.builtin "repr") := by decide +kernel
theorem bb_str : bootBuiltins "str" = some (.type "str") := by decide +kernel
theorem bb_int : bootBuiltins "int" = some (.type "int") := by decide +kernel
theorem bb_bool : bootBuiltins "bool" = some (.type "bool") := by decide +kernel
theorem bb_list : bootBuiltins "list" = some (.type "list") := by decide +kernel
theorem bb_tuple : bootBuiltins "tuple" = some (.type "tuple") := by decide +kernel
theorem bb_dict : bootBuiltins "dict" = some (.type "dict") := by decide +kernel
theorem bb_set : bootBuiltins "set" = some (.type "set") := by decide +kernel
section
variable {X : Cx} {x : Str} {p pos apos cpos : Pos} {o e f : Expr} {es : List Expr} {to te : TE'} {ta : TA'}
/-! ### a module's constants -/
theorem qe_gint {i : Int} (hm : ∃ t, X.mg x = some (.int i t)) (hg : Gl X x := by rfl) (hd : (x == ("__debug__" : Str)) = false := by decide) : QE X (.Name x pos) (eC (.int i)) := by
  obtain ⟨t, hm⟩ := hm
  exact qe_cst (pe_glob (v := .int i) hg hm ⟨t, rfl⟩ hd) fun H => .i
theorem qe_gstr {i : Str} (hm : ∃ t, X.mg x = some (.str i t)) (hg : Gl X x := by rfl) (hd : (x == ("__debug__" : Str)) = false := by decide) : QE X (.Name x pos) (eC (.str i)) := by
  obtain ⟨t, hm⟩ := hm
  exact qe_cst (pe_glob (v := .str i) hg hm ⟨t, rfl⟩ hd) fun H => .s
theorem qe_gtup {a : Addr} {us : List U} (hm : X.mg x = some (.ref a)) (h : ∀ H, Rep X.K H (.tup us) (.ref a)) (hg : Gl X x := by rfl) (hd : (x == ("__debug__" : Str)) = false := by decide) : QE X (.Name x pos) (eC (.tup us)) :=
  qe_cst (pe_glob (v := .ref a) hg hm rfl hd) h
theorem rep_tupB {K : Frag} {x : Str} {ns : List Int} (h : He.tupB K x (ns.map He.Dv.int) = true) (H : Hp) : Rep K H (.tup (ns.map U.int)) (.ref (He.ga K x)) := by
  simp only [Rep]
  refine ⟨_, _, rfl, He.tupB_ok h H, ?_⟩
  rw [List.map_map]
  exact repL_int ns
/-! ### methods of built-in things, in short -/
theorem qm_append (ho : QE X o to) (ha : QE X e te) (hbase : attributeBase o "append" X.env (eval o X.env) = eval o X.env := by rfl)
    (hfew : ((backTo cpos (starEach [e] X.env)).all (fun x => !x.1) && (backToKw cpos (keywordEach [] X.env)).all (fun x => x.1.isSome) && decide (([e] : List Expr).length + ([] : List Keyword).length + (if ([] : List Keyword).isEmpty then 0 else 1) < 30)) = true := by rfl)
    (hline : (apos.endLine == cpos.line) = true := by rfl) (hs : starEach [e] X.env = (false, eval e X.env) :: starEach [] X.env := by rfl) (hplain : (backTo cpos (starEach [] X.env)).any (·.1) = false := by rfl) :
    QE X (.Call (.Attribute o "append" apos) [e] [] cpos) (eM isML rAppend to (eCons te eNil)) :=
  qe_bm PySem.F.plainAttrs_list PySem.F.slot_list_append PySem.F.type_list_append m_append isML_ty ho (qa_cons ha qa_nil hs) hbase hfew hline hs hplain
theorem qm_pop (ho : QE X o to) (hbase : attributeBase o "pop" X.env (eval o X.env) = eval o X.env := by rfl) (hline : (apos.endLine == cpos.line) = true := by rfl) :
    QE X (.Call (.Attribute o "pop" apos) [] [] cpos) (eM isML rPop to eNil) := qe_bm0 PySem.F.plainAttrs_list PySem.F.slot_list_pop PySem.F.type_list_pop m_pop isML_ty ho hbase hline
theorem qm_reverse (ho : QE X o to) (hbase : attributeBase o "reverse" X.env (eval o X.env) = eval o X.env := by rfl) (hline : (apos.endLine == cpos.line) = true := by rfl) :
    QE X (.Call (.Attribute o "reverse" apos) [] [] cpos) (eM isML rRev to eNil) := qe_bm0 PySem.F.plainAttrs_list PySem.F.slot_list_reverse PySem.F.type_list_reverse m_reverse isML_ty ho hbase hline
theorem qm_join (ho : QE X o to) (ha : QE X e te) (hbase : attributeBase o "join" X.env (eval o X.env) = eval o X.env := by rfl)
    (hfew : ((backTo cpos (starEach [e] X.env)).all (fun x => !x.1) && (backToKw cpos (keywordEach [] X.env)).all (fun x => x.1.isSome) && decide (([e] : List Expr).length + ([] : List Keyword).length + (if ([] : List Keyword).isEmpty then 0 else 1) < 30)) = true := by rfl)
    (hline : (apos.endLine == cpos.line) = true := by rfl) (hs : starEach [e] X.env = (false, eval e X.env) :: starEach [] X.env := by rfl) (hplain : (backTo cpos (starEach [] X.env)).any (·.1) = false := by rfl) :
    QE X (.Call (.Attribute o "join" apos) [e] [] cpos) (eM isS rJoin to (eCons te eNil)) :=
  qe_bm PySem.F.plainAttrs_str PySem.F.slot_str_join PySem.F.type_str_join m_join isS_ty ho (qa_cons ha qa_nil hs) hbase hfew hline hs hplain
/-! ### repr of a list, a tuple -/
def rRepr : RC' := fun us M q => one us fun u => ∃ d, dM M u = some d ∧ isSeq u = true ∧ d.showable = true ∧ d.hasDict = false ∧ d.depth ≤ 60 ∧ d.shown.length ≤ sizeLine ∧ q (.str d.shown) M
where isSeq : U → Bool
  | .tup _ => true
  | .kt _ => true
  | .lst _ => true
  | .ref _ => true
  | _ => false
theorem isSeq_ref {K : Frag} {H : Hp} {u : U} {v : V} (h : rRepr.isSeq u = true) (r : Rep K H u v) : ∃ a, v = .ref a := by
  cases u with
  | tup xs => simp only [Rep] at r; obtain ⟨a, _, h, _⟩ := r; exact ⟨a, h⟩
  | kt xs => simp only [Rep] at r; obtain ⟨a, _, h, _⟩ := r; exact ⟨a, h⟩
  | lst xs => simp only [Rep] at r; obtain ⟨a, _, h, _⟩ := r; exact ⟨a, h⟩
  | ref a => exact ⟨a, rref r⟩
  | _ => cases h
theorem call_reprD (hg : X.A.guards = some []) (hu : X.A.units + 64 < cLine) : CallR X (.builtin "repr") (fun xs H Q => ∃ a d, xs = [.ref a] ∧ Dp X.K H (.ref a) d ∧ d.showable = true ∧ d.hasDict = false ∧ d.depth ≤ 60 ∧ d.shown.length ≤ sizeLine ∧ Q (.str d.shown) H) := by
  intro pins s σ H xs uu Q I r h
  obtain ⟨a, d, rfl, hd, h1, h2, h3, h4, q⟩ := h
  obtain ⟨u, rfl, rx⟩ := vals1 r
  obtain ⟨as, rr⟩ := Dp.reads I d _ u hd rx
  cases rx
  exact repr_of_reads' rr h1 (fun z => by rw [h2] at z; cases z) hg (by omega) (fun _ _ e => e) (fun h' u tk hk => ⟨.str d.shown, H, I.kept hk, ⟨_, rfl⟩, q⟩) h4
theorem c_repr (hg : X.A.guards = some []) (hu : X.A.units + 64 < cLine) : CallR X (.builtin "repr") (lowC X.K rRepr) := callU (call_reprD hg hu) fun us xs H M q Q rr m h P => by
  obtain ⟨u, rfl, d, e, hs, h1, h2, h3, h4, h⟩ := one_inv h
  obtain ⟨v, rfl, r⟩ := rr.one_inv
  obtain ⟨a, rfl⟩ := isSeq_ref hs r
  exact ⟨a, d, rfl, dM_ok m e r, h1, h2, h3, h4, P.val h m .s⟩
/-! ### int(..) -/
def rIntC : RC' := fun us M q => one us fun u => match u with
  | .int i => q (.int i) M
  | .bl b => q (.int (if b then 1 else 0)) M
  | .str a => ∃ n, PySem.intText? a = some n ∧ a.length ≤ 640 ∧ q (.int n) M
  | _ => False
theorem c_int : CallR X (.type "int") (lowC X.K rIntC) := callU (CallR.or call_int1 call_int_str) fun us xs H M q Q rr m h P => by
  obtain ⟨u, rfl, h⟩ := one_inv h
  obtain ⟨v, rfl, r⟩ := rr.one_inv
  cases u with
  | int i => exact .inl (.inl ⟨i, by rw [rint r], P.val h m .i⟩)
  | bl b => exact .inl (.inr ⟨b, by rw [rbl r], P.val h m .i⟩)
  | str a =>
    obtain ⟨n, e, hz, h⟩ := h
    exact .inr ⟨a, n, by rw [rstr r], e, hz, P.val h m .i⟩
  | _ => exact (show False from h).elim
theorem lowI_mono {K : Frag} {it : TI'} {σ : L2.St} {H : Hp} {R R' : It → Hp → Prop} (h : lowI K it σ H R) (k : ∀ J H, R J H → R' J H) : lowI K it σ H R' := by
  obtain ⟨z, M, r, rs, m, h, P⟩ := h
  exact ⟨z, M, r, rs, m, h, fun xs side M1 h1 J H1 a b c => k J H1 (P xs side M1 h1 J H1 a b c)⟩
theorem tLc_mono {K : Frag} {it : TI'} {g : TG} {tt : TT} {te : TE} {vs : List Nat} {σ : L2.St} {H : Hp} {Q Q' : VK} (h : tLc (lowI K it) g tt te vs σ H Q) (k : ∀ v H, Q v H → Q' v H) : tLc (lowI K it) g tt te vs σ H Q' :=
  lowI_mono h fun J H1 f D hD => by
    obtain ⟨W, w0, ws⟩ := f D hD
    exact ⟨W, w0, fun i m H w => (ws i m H w).imp (fun ⟨a, b⟩ => ⟨a, k _ _ b⟩) fun z => z⟩
/-- what BlkOk asks, as a test -/
def blkB (N : List Str) (sc scope : Scope) (own : List (Str × Nat)) : Bool :=
  (scope.kind == .function) && (scope.names.all fun y => decide (scope.names.lookup y.1 = some y.2)) && (own.all fun p => decide (N[p.2]? = some p.1)) &&
  (scope.names.all fun y => if y.2 = .free then decide (sc.names.lookup y.1 = some .cell) || decide (sc.names.lookup y.1 = some .free) else true) &&
  (scope.names.all fun y => if y.2 = .local ∨ y.2 = .cell then decide (y.1 ∈ own.map (·.1)) || !decide (y.1 ∈ N) else true)
theorem blk_ok {N : List Str} {sc scope : Scope} {own : List (Str × Nat)} (h : blkB N sc scope own = true) : BlkOk N sc scope own := by
  unfold blkB at h
  simp only [Bool.and_eq_true, List.all_eq_true] at h
  obtain ⟨⟨⟨⟨h1, h2⟩, h3⟩, h4⟩, h5⟩ := h
  refine ⟨by simpa using h1, fun y hy => of_decide_eq_true (h2 y hy), fun p hp => of_decide_eq_true (h3 p hp), fun y hy e => ?_, fun y hy e => ?_⟩
  · have := h4 y hy
    rw [if_pos e, Bool.or_eq_true] at this
    exact this.imp of_decide_eq_true of_decide_eq_true
  · have := h5 y hy
    rw [if_pos e, Bool.or_eq_true] at this
    exact this.imp of_decide_eq_true fun z => by simpa using z
/-- name = [.. for ..] on one line -/
theorem qs_setLc {i : Nat} {y : Str} {py : Pos} {elt tg iter : Expr} {ifs : List Expr} {scope : Scope} {own : List (Str × Nat)} {spos : Pos} {it : TI'} {g : TG'} {tt : TT'} (hc : X.calm = true) (hN : X.N.Nodup) (hi : QI X tg iter it) (ok : BlkOk X.N X.env.scope scope own)
    (hg : ∀ (s : Shared) (H : Hp) (C : Addr) (cl : List (Str × Addr)) (fp : List Addr), QV (X.blk s H scope (compEnvC scope cl C X.env) fp) (own.map (·.2)) tg g) (ht : ∀ (s : Shared) (H : Hp) (C : Addr) (cl : List (Str × Addr)) (fp : List Addr), QTs (X.blk s H scope (compEnvC scope cl C X.env) fp) ifs tt)
    (he : ∀ (s : Shared) (H : Hp) (C : Addr) (cl : List (Str × Addr)) (fp : List Addr), QE (X.blk s H scope (compEnvC scope cl C X.env) fp) elt te) (hy : X.N[i]? = some y := by rfl) (hyl : X.env.scope.names.lookup y = some .local := by rfl)
    (hsw : swapsWith (.ListComp elt [⟨tg, iter, ifs, 0⟩] scope pos) (some (.Name y py)) spos.line X.env = pure true := by exact sw_true rfl rfl rfl rfl) (hs : ∀ x, foldedSetIterable iter X.env x = pure x := by intro _; rfl) :
    QS X (.Assign [.Name y py] (.ListComp elt [⟨tg, iter, ifs, 0⟩] scope pos) spos) (sSet i (eLc it g tt te (own.map (·.2)))) := by
  refine ⟨fun pins s σ H D I h => ?_⟩
  obtain ⟨z, M, d, rs, m, h, P⟩ := h
  have base := ps_setLc (wi := lowI X.K it) (g := lowV X.K (List.map (fun p : Str × Nat => p.2) own) g) (tt := lowT X.K tt) (te := lowE X.K te) (spos := spos) (py := py) hc hN hy hyl hsw hi ok hg ht he hs
  have nx : lowE X.K (eLc it g tt te (own.map (·.2))) σ H (fun x H1 => D.nx (σ.set i (some x)) H1) :=
    ⟨z, M, _, rs, m, h, fun u M' h' v H' r m' k' => P.nx _ M' h' _ H' ((rs.keep k'.tk).set r) m' k'⟩
  -- lists are locked behind the store
  have low : tAsg (tLc (lowI X.K it) (lowV X.K (List.map (fun p : Str × Nat => p.2) own) g) (lowT X.K tt) (lowE X.K te) (own.map (·.2))) (gName i) { D with nx := fun σ' H' => ∃ v, σ' = σ.set i (some v) ∧ L3.fz (fun v H1 => D.nx (σ.set i (some v)) H1) v H' } σ H :=
    tLc_mono (low_lc nx) fun v H1 h1 => ⟨v, rfl, h1⟩
  refine thn (base.run pins s σ H _ I low) fun fl s' hs => ?_
  cases fl with
  | next =>
    obtain ⟨σ', H', I', v, rfl, q⟩ := hs
    obtain ⟨H2, I2, q2⟩ := q.run I'
    exact ⟨_, H2, I2, q2⟩
  | brk => exact hs
  | cont => exact hs
  | ret u => exact hs
end
end L3

set_option Elab.async false
set_option linter.all false
set_option maxRecDepth 100000
set_option maxHeartbeats 4000000
namespace L3
open PySem PySem.Spec L2
open PyProof.Rows hiding St
/-! ### reading a body -/
theorem ifB_of {b : Bool} {p r : Prop} (h1 : b = true → p) (h2 : b = false → r) : ifB b p r := by
  cases b with
  | true => exact h1 rfl
  | false => exact h2 rfl
theorem ifB_dec {c : Prop} [Decidable c] {p r : Prop} (h1 : c → p) (h2 : ¬ c → r) : ifB (decide c) p r := ifB_of (fun h => h1 (of_decide_eq_true h)) fun h => h2 (of_decide_eq_false h)
theorem ifB_true {p r : Prop} (h : p) : ifB true p r := h
theorem ifB_false {p r : Prop} (h : r) : ifB false p r := h
theorem ifB_iff {b : Bool} {p r : Prop} : ifB b p r ↔ (b = true → p) ∧ (b = false → r) := by
  cases b <;> simp [ifB]
theorem isTy_int_int : isTy "int" "int" = true := by decide +kernel
theorem isTy_int_bool : isTy "int" "bool" = false := by decide +kernel
theorem isTy_bool_int : isTy "bool" "int" = true := by decide +kernel
theorem isTy_bool_bool : isTy "bool" "bool" = true := by decide +kernel
theorem isTy_tuple_tuple : isTy "tuple" "tuple" = true := by decide +kernel
theorem isTy_tuple_list : isTy "tuple" "list" = false := by decide +kernel
theorem isTy_list_tuple : isTy "list" "tuple" = false := by decide +kernel
theorem isTy_list_list : isTy "list" "list" = true := by decide +kernel
theorem isTy_tuple_int : isTy "tuple" "int" = false := by decide +kernel
theorem isTy_list_int : isTy "list" "int" = false := by decide +kernel
theorem isTy_str_int : isTy "str" "int" = false := by decide +kernel
theorem isTy_int_str : isTy "int" "str" = false := by decide +kernel
theorem isTy_str_str : isTy "str" "str" = true := by decide +kernel
theorem isTy_int_tuple : isTy "int" "tuple" = false := by decide +kernel
theorem isTy_int_list : isTy "int" "list" = false := by decide +kernel
theorem isTy_str_tuple : isTy "str" "tuple" = false := by decide +kernel
theorem isTy_str_list : isTy "str" "list" = false := by decide +kernel
theorem okN_int : okN "int" = true := by decide +kernel
theorem okN_bool : okN "bool" = true := by decide +kernel
theorem okN_str : okN "str" = true := by decide +kernel
theorem okN_list : okN "list" = true := by decide +kernel
theorem okN_tuple : okN "tuple" = true := by decide +kernel
/-- M' holds what M holds -/
def Sub (M M' : Mp) : Prop := ∀ a o, M a = some o → M' a = some o
theorem Sub.refl (M : Mp) : Sub M M := fun _ _ h => h
theorem Sub.put {M : Mp} {a : Addr} {o : MO} (h : M a = none) : Sub M (put M a o) := fun b u e => by
  rw [put_ne (mne e h)]; exact e
theorem Sub.seqL {M M' : Mp} (s : Sub M M') {u : U} {xs : List U} (h : seqL M u = some xs) : seqL M' u = some xs := by
  cases u with
  | ref a =>
    have h' : (match M a with | some (.lst xs) => some xs | _ => none) = some xs := h
    cases e : M a with
    | none => rw [e] at h'; cases h'
    | some o =>
      show (match M' a with | some (.lst xs) => some xs | _ => none) = some xs
      rw [s _ _ e]
      rw [e] at h'
      exact h'
  | lst ys => exact h
  | _ => cases h
/-- a comprehension that leaves all as it is -/
theorem lc_pure {z : SL} {M : Mp} {q : QK} {xs : List U} {side : Mp → Prop} {g : TG'} {tt : TT'} {te : TE'} {vs : List Nat} (f : U → Option U) (hs : ∀ M', Sub M M' → side M') (hl : xs.length ≤ sizeLine)
    (step : ∀ x ∈ xs, ∀ M', Sub M M' → ∀ (k1 : U → Mp → Prop) (k0 : Mp → Prop), (∀ y, f x = some y → k1 y M') → (f x = none → k0 M') → g x (wipeS z vs) M' fun z2 M2 => tt z2 M2 fun b M3 => ifB b (te z2 M3 k1) (k0 M3))
    (hq : q (.lst (xs.filterMap f)) M) : lcQ g tt te vs z q xs side M := ⟨by
  intro D hD
  refine ⟨fun i acc M' => acc = (xs.take i).filterMap f ∧ M' = put M D (.lst acc), ⟨by simp, rfl⟩, fun i acc M' ⟨_, e⟩ => by rw [e]; exact hs _ (.put hD), ?_, ?_⟩
  · rintro i x acc M' hx ⟨e1, rfl⟩
    have hi : i < xs.length := (List.getElem?_eq_some_iff.mp hx).1
    have ht : xs.take (i + 1) = xs.take i ++ [x] := by rw [List.take_add_one, hx]; rfl
    have ha : acc.length ≤ i := by
      rw [e1]
      exact Nat.le_trans (List.length_filterMap_le _ _) (by rw [List.length_take]; omega)
    refine step x (List.mem_of_getElem? hx) _ (.put hD) _ _ (fun y ey => ⟨put_same, by omega, ?_, put_put⟩) fun en => ⟨?_, rfl⟩
    · rw [ht, List.filterMap_append, ← e1]; simp [ey]
    · rw [ht, List.filterMap_append, ← e1]; simp [en]
  · rintro acc M' ⟨e1, rfl⟩
    rw [List.take_length] at e1
    refine .inl ⟨put_same, ?_⟩
    rw [drp_put hD, e1]
    exact hq⟩
/-- the same, an item for each -/
theorem lc_map {z : SL} {M : Mp} {q : QK} {xs : List U} {side : Mp → Prop} {g : TG'} {te : TE'} {vs : List Nat} (f : U → U) (hs : ∀ M', Sub M M' → side M') (hl : xs.length ≤ sizeLine)
    (step : ∀ x ∈ xs, ∀ M', Sub M M' → ∀ (k : U → Mp → Prop), k (f x) M' → g x (wipeS z vs) M' fun z2 M2 => te z2 M2 k)
    (hq : q (.lst (xs.map f)) M) : lcQ g tYes' te vs z q xs side M :=
  lc_pure (fun x => some (f x)) hs hl (fun x hx M' s k1 k0 h1 h0 => step x hx M' s k1 (h1 _ rfl)) (by
    have e : xs.filterMap (fun x => some (f x)) = xs.map f := by
      have : (fun x => some (f x)) = some ∘ f := rfl
      rw [this, List.filterMap_eq_map]
    rw [e]; exact hq)
end L3

set_option Elab.async false
set_option linter.all false
set_option maxRecDepth 100000
set_option maxHeartbeats 4000000
namespace L3
open PySem PySem.Spec L2
open PyProof.Rows hiding St
/-! ### frozen rows -/
/-- the items of a frozen list, of a tuple -/
def seqF : U → Option (List U)
  | .tup xs => some xs
  | .kt xs => some xs
  | .lst xs => some xs
  | _ => none
theorem seqF_A {M : Mp} {u : U} {xs : List U} (h : seqF u = some xs) : seqA M u = some xs := by
  cases u <;> first | exact h | (cases h)
theorem seqF_len {M : Mp} {u : U} {xs : List U} (h : seqF u = some xs) : lenU M u = some xs.length := by
  cases u <;> first | (cases h; rfl) | (cases h)
theorem seqF_ty {M : Mp} {u : U} {xs : List U} (h : seqF u = some xs) : tyN M u = some "tuple" ∨ tyN M u = some "list" := by
  cases u <;> first | exact .inl rfl | exact .inr rfl | (cases h)
theorem seqF_ix {M : Mp} {u : U} {xs : List U} {i : Int} {v : U} {q : QK} (h : seqF u = some xs) (hv : atI xs i = some v) (hq : q v M) : rIx u (.int i) M q := by
  cases u <;> first | (cases h; exact ⟨⟨v, hv, hq⟩⟩) | (cases h)
theorem seqF_iter {M : Mp} {u : U} {xs : List U} {r : List U → (Mp → Prop) → Mp → Prop} (h : seqF u = some xs) (hr : ∀ side, (∀ M', side M') → r xs side M) : iterQ u M r := ⟨by
  cases u with
  | tup ys => cases h; exact hr _ fun _ => trivial
  | kt ys => cases h; exact hr _ fun _ => trivial
  | lst ys => cases h; exact ⟨_, rfl, hr _ fun _ => rfl⟩
  | _ => cases h⟩
theorem seqF_unp {M : Mp} {u : U} {xs : List U} {z : SL} {n : Nat} {t : TGs'} {q : SL → Mp → Prop} (h : seqF u = some xs) (hn : xs.length = n) (ht : t xs z M q) : gTuple n t u z M q := by
  cases u with
  | tup ys => cases h; exact ⟨⟨hn, ht⟩⟩
  | kt ys => cases h; exact ⟨⟨hn, ht⟩⟩
  | lst ys => cases h; exact ⟨⟨_, rfl, hn, ht⟩⟩
  | _ => cases h
/-! ### what stays, but at one place -/
def Keep (d : Addr) (M M' : Mp) : Prop := ∀ b o, b ≠ d → M b = some o → M' b = some o
theorem Keep.refl (d : Addr) (M : Mp) : Keep d M M := fun _ _ _ h => h
theorem Keep.trans {d : Addr} {M M1 M2 : Mp} (a : Keep d M M1) (b : Keep d M1 M2) : Keep d M M2 := fun c o h e => b c o h (a c o h e)
theorem Keep.put (d : Addr) (M : Mp) (o : MO) : Keep d M (put M d o) := fun b u h e => by rw [put_ne h]; exact e
theorem Sub.keep {d : Addr} {M M' : Mp} (h : Sub M M') : Keep d M M' := fun b o _ e => h b o e
theorem Sub.trans {M M1 M2 : Mp} (a : Sub M M1) (b : Sub M1 M2) : Sub M M2 := fun c o e => b c o (a c o e)
theorem Keep.new {d p : Addr} {M : Mp} {o : MO} (h : M p = none) : Keep d M (L3.put M p o) := (Sub.put h).keep
theorem Keep.at {d a : Addr} {M M' : Mp} {o : MO} (k : Keep d M M') (h : M a = some o) (n : a ≠ d) : M' a = some o := k a o n h
/-- what is new may be changed, too -/
theorem Keep.put_new {d p : Addr} {M M' : Mp} {o : MO} (k : Keep d M M') (h : M p = none) : Keep d M (L3.put M' p o) := fun b u hb e => by
  rw [put_ne (mne e h)]
  exact k b u hb e
theorem Sub.put_new {p : Addr} {M M' : Mp} {o : MO} (k : Sub M M') (h : M p = none) : Sub M (L3.put M' p o) := fun b u e => by
  rw [put_ne (mne e h)]
  exact k b u e
theorem Keep.of {d : Addr} {M M' : Mp} (k : Keep d M M') (h : ∀ o, M d = some o → M' d = some o) : Sub M M' := fun b o e => by
  by_cases hb : b = d
  · subst hb; exact h o e
  · exact k b o hb e
theorem ref_ne_of {M : Mp} {a b : Addr} {o o' : MO} (h : M a = some o) (h' : M b = some o') (n : o ≠ o') : a ≠ b := by
  intro e; subst e; rw [h] at h'; exact n (Option.some.inj h')
/-! ### the deck -/
/-- at d a list of at least n draws -/
def Dk (M : Mp) (d : Addr) (n : Nat) : Prop := ∃ ds : List Int, M d = some (.lst (ds.map U.int)) ∧ (∀ x ∈ ds, 0 ≤ x ∧ x < 2147483648) ∧ n ≤ ds.length
theorem Dk.mono {M : Mp} {d : Addr} {m n : Nat} (h : Dk M d n) (k : m ≤ n) : Dk M d m := by
  obtain ⟨ds, e, r, l⟩ := h
  exact ⟨ds, e, r, Nat.le_trans k l⟩
theorem Dk.keep {M M' : Mp} {d : Addr} {n : Nat} (h : Dk M d n) (k : ∀ o, M d = some o → M' d = some o) : Dk M' d n := by
  obtain ⟨ds, e, r, l⟩ := h
  exact ⟨ds, k _ e, r, l⟩
theorem Dk.ne {M : Mp} {d p : Addr} {n : Nat} (h : Dk M d n) (k : M p = none) : d ≠ p := by
  obtain ⟨ds, e, _, _⟩ := h
  exact mne e k
theorem pop_dk {M : Mp} {q : QK} {n : Nat} {d : Addr} (h : Dk M d (n + 1)) (k : ∀ (y : Int) (M' : Mp), 0 ≤ y → y < 2147483648 → Dk M' d n → Keep d M M' → q (.int y) M') : isML (.ref d) M ∧ rPop (.ref d) [] M q := by
  obtain ⟨ds, e, r, l⟩ := h
  have hl : ds.length - 1 < ds.length := by omega
  have hy : ds[ds.length - 1]? = some ds[ds.length - 1] := List.getElem?_eq_getElem hl
  refine ⟨⟨d, _, rfl, e⟩, ⟨rfl, d, _, .int ds[ds.length - 1], rfl, e, ?_, ?_⟩⟩
  · rw [List.length_map, List.getElem?_map, hy]; rfl
  · have hm := r ds[ds.length - 1] (List.getElem_mem hl)
    refine k _ _ hm.1 hm.2 ⟨ds.dropLast, ?_, fun x hx => r x (List.dropLast_subset _ hx), ?_⟩ (.put _ _ _)
    · rw [put_same, List.map_dropLast]
    · rw [List.length_dropLast]; omega
/-! ### texts -/
theorem len_int {i : Int} (h : i.natAbs.log2 < 1920) : (PySem.Str.ofString (toString i)).length ≤ 1921 := PyProof.Rows.int_text_len_1921 h
theorem log2_of_lt {i : Int} {n : Nat} (h : i.natAbs < 2 ^ n) (hn : 0 < n) : i.natAbs.log2 < n := by
  by_cases h0 : i.natAbs = 0
  · rw [h0]; exact hn
  · exact (Nat.log2_lt h0).mpr h
end L3

set_option Elab.async false
set_option linter.all false
set_option maxRecDepth 100000
set_option maxHeartbeats 4000000
namespace L3
open PySem PySem.Spec L2
open PyProof.Rows hiding St
/-! ### dicts, read -/
theorem asL_dic {M : Mp} {a : Addr} {k : List U → Prop} {d : Bool → Bool → List (U × U) → Prop} {tk lk : Bool} {kvs : List (U × U)} (h : M a = some (.dic tk lk kvs)) (hd : d tk lk kvs) : asL M a k d := by
  unfold asL; rw [h]; exact hd
theorem asL_lst {M : Mp} {a : Addr} {k : List U → Prop} {d : Bool → Bool → List (U × U) → Prop} {xs : List U} (h : M a = some (.lst xs)) (hk : k xs) : asL M a k d := by
  unfold asL; rw [h]; exact hk
theorem ix_dic {M : Mp} {a : Addr} {k v : U} {tk lk : Bool} {kvs : List (U × U)} {q : QK} (h : M a = some (.dic tk lk kvs)) (hk : isKey tk k = true) (hv : dlook kvs k = some v) (hq : q v M) : rIx (.ref a) k M q := ⟨asL_dic h ⟨hk, v, hv, hq⟩⟩
theorem ix_lst {M : Mp} {a : Addr} {i : Int} {v : U} {xs : List U} {q : QK} (h : M a = some (.lst xs)) (hv : atI xs i = some v) (hq : q v M) : rIx (.ref a) (.int i) M q := ⟨asL_lst h ⟨v, hv, hq⟩⟩
theorem in_dic {M : Mp} {a : Addr} {k : U} {tk lk : Bool} {kvs : List (U × U)} {q : QK} {f : Bool → Bool} (h : M a = some (.dic tk lk kvs)) (hk : isKey tk k = true) (hq : q (.bl (f (dlook kvs k).isSome)) M) : rIn f k (.ref a) M q := asL_dic h ⟨hk, hq⟩
theorem dlook_map_none {α : Type} {key val : α → U} {l : List α} {k : U} (h : ∀ r ∈ l, key r ≠ k) : dlook (l.map fun r => (key r, val r)) k = none := by
  induction l with
  | nil => rfl
  | cons r l ih =>
    rw [List.map_cons, dlook_cons, if_neg (h r (List.mem_cons_self ..))]
    exact ih fun s hs => h s (List.mem_cons_of_mem _ hs)
theorem dlook_map_some {α : Type} {key val : α → U} {l : List α} {r : α} (hr : r ∈ l) (inj : ∀ s ∈ l, key s = key r → val s = val r) : dlook (l.map fun r => (key r, val r)) (key r) = some (val r) := by
  induction l with
  | nil => simp at hr
  | cons s l ih =>
    rw [List.map_cons, dlook_cons]
    by_cases e : key s = key r
    · rw [if_pos e, inj s (List.mem_cons_self ..) e]
    · rw [if_neg e]
      rcases List.mem_cons.mp hr with rfl | hr
      · exact absurd rfl e
      · exact ih hr fun t ht => inj t (List.mem_cons_of_mem _ ht)
theorem dlook_any (kvs : List (U × U)) (k : U) : (kvs.any fun p => decide (p.1 = k)) = (dlook kvs k).isSome := by
  induction kvs with
  | nil => rfl
  | cons p kvs ih =>
    rw [List.any_cons, dlook_cons, ih]
    by_cases e : p.1 = k
    · rw [decide_eq_true e, if_pos e]; rfl
    · rw [decide_eq_false e, if_neg e]; rfl
theorem dput_new {kvs : List (U × U)} {k v : U} (h : dlook kvs k = none) : dput kvs k v = kvs ++ [(k, v)] := by
  unfold dput
  rw [dlook_any, h]
  rfl
theorem dlook_none {kvs : List (U × U)} {k : U} (h : k ∉ kvs.map (·.1)) : dlook kvs k = none := by
  induction kvs with
  | nil => rfl
  | cons p kvs ih =>
    rw [List.map_cons, List.mem_cons] at h
    rw [dlook_cons, if_neg (fun e => h (.inl e.symm))]
    exact ih fun z => h (.inr z)
theorem mergeU_nodup : ∀ (more acc : List (U × U)), (acc.map (·.1) ++ more.map (·.1)).Nodup → mergeU acc more = acc ++ more
  | [], acc, _ => by simp [mergeU]
  | p :: more, acc, h => by
    show mergeU (dput acc p.1 p.2) more = _
    have hp : p.1 ∉ acc.map (·.1) := by
      intro z
      rw [List.map_cons] at h
      exact (List.nodup_append.mp h).2.2 _ z _ (List.mem_cons_self ..) rfl
    rw [dput_new (dlook_none hp), mergeU_nodup more (acc ++ [(p.1, p.2)]) (by simpa using h)]
    simp
theorem pairsU_map {α : Type} {key val : α → U} : ∀ l : List α, pairsU (l.map fun r => .tup [key r, val r]) = some (l.map fun r => (key r, val r))
  | [] => rfl
  | r :: l => by
    rw [List.map_cons, List.map_cons]
    unfold pairsU
    rw [pairsU_map l]
    rfl
/-! ### comparing pairs of ints -/
theorem okD_ii (a b : Int) : okD (.tuple [.int a, .int b]) := by
  unfold okD SeqAt.shaped
  simp [PyData.canLay0, PyData.canLayAll0, PyData.depth, PyData.depthAll]
theorem eqv_ii (a b c d : Int) : PyData.eqv (.tuple [.int a, .int b]) (.tuple [.int c, .int d]) = decide (a = c ∧ b = d) := by
  by_cases h1 : a = c <;> by_cases h2 : b = d <;> simp [PyData.eqv, PyData.eqvAll, h1, h2]
theorem eq_ii {f : Bool → Bool} {a b c d : Int} {M : Mp} {q : QK} (h : q (.bl (f (decide (a = c ∧ b = d)))) M) : rEqG f (.tup [.int a, .int b]) (.tup [.int c, .int d]) M q := by
  refine ⟨.tuple [.int a, .int b], .tuple [.int c, .int d], rfl, rfl, okD_ii a b, okD_ii c d, ?_⟩
  rw [eqv_ii]
  exact h
/-! ### sorting pairs of ints -/
theorem alike_ii (a b c d : Int) : PySem.W.alike (.tuple [.int a, .int b]) (.tuple [.int c, .int d]) = true := by
  simp [PySem.W.alike, PySem.W.alikeAll]
theorem sortOk_ii {α : Type} (x y : α → Int) (l : List α) : SortOk (l.map fun r => .kt [.int (x r), .int (y r)]) := by
  refine ⟨fun u hu => ?_, ?_, ?_, fun u hu => ?_⟩
  · obtain ⟨r, _, rfl⟩ := List.mem_map.mp hu; rfl
  · intro d hd d' hd'
    obtain ⟨u, hu, rfl⟩ := List.mem_map.mp hd
    obtain ⟨r, _, rfl⟩ := List.mem_map.mp hu
    obtain ⟨u', hu', rfl⟩ := List.mem_map.mp hd'
    obtain ⟨r', _, rfl⟩ := List.mem_map.mp hu'
    exact alike_ii _ _ _ _
  · refine .inl fun d hd => ?_
    obtain ⟨u, hu, rfl⟩ := List.mem_map.mp hd
    obtain ⟨r, _, rfl⟩ := List.mem_map.mp hu
    exact ⟨.int (x r), [.int (y r)], rfl⟩
  · obtain ⟨r, _, rfl⟩ := List.mem_map.mp hu
    show (PyData.tuple [.int (x r), .int (y r)]).depth ≤ 60
    simp [PyData.depth, PyData.depthAll]
theorem sortU_ii {α : Type} (x y : α → Int) (l : List α) : sortU (l.map fun r => .kt [.int (x r), .int (y r)]) = (l.mergeSort fun r s => decide (x r < x s ∨ (x r = x s ∧ y r ≤ y s))).map fun r => .kt [.int (x r), .int (y r)] := by
  unfold sortU
  have e := List.map_mergeSort (r := fun r s => decide (x r < x s ∨ (x r = x s ∧ y r ≤ y s))) (s := PySem.W.dataLe false dOf) (f := fun r : α => U.kt [.int (x r), .int (y r)]) (l := l) (fun a _ b _ => by
    have h := PySem.W.dataLe_ii (β := α) x y
    have h2 : PySem.W.dataLe false dOf (.kt [.int (x a), .int (y a)]) (.kt [.int (x b), .int (y b)]) = PySem.W.dataLe false (fun b => PyData.tuple [.int (x b), .int (y b)]) a b := rfl
    rw [h2, h])
  rw [← e]
/-! ### pairs of lists -/
theorem pd_get {α β : Type} {F : α → β → Prop} : ∀ {l₁ : List α} {l₂ : List β} {j : Nat} {x : α}, Paired F l₁ l₂ → l₁[j]? = some x → ∃ y, l₂[j]? = some y ∧ F x y
  | _, _, j, x, .nil, h => by simp at h
  | _, _, 0, x, .cons (b := y) f _, h => by
    simp only [List.getElem?_cons_zero] at h
    cases h
    exact ⟨y, rfl, f⟩
  | _, _, j + 1, x, .cons _ t, h => by
    simp only [List.getElem?_cons_succ] at h
    obtain ⟨y, e, f⟩ := pd_get t h
    exact ⟨y, by simpa using e, f⟩
theorem pd_mem {α β : Type} {F : α → β → Prop} {l₁ : List α} {l₂ : List β} {x : α} (h : Paired F l₁ l₂) (hx : x ∈ l₁) : ∃ y ∈ l₂, F x y := by
  obtain ⟨j, hj⟩ := List.mem_iff_getElem?.mp hx
  obtain ⟨y, e, f⟩ := pd_get h hj
  exact ⟨y, List.mem_of_getElem? e, f⟩
theorem pd_map {α β γ : Type} {F : α → β → Prop} {f : α → γ} {g : β → γ} (k : ∀ x y, F x y → f x = g y) : ∀ {l₁ : List α} {l₂ : List β}, Paired F l₁ l₂ → l₁.map f = l₂.map g
  | _, _, .nil => rfl
  | _, _, .cons h t => by rw [List.map_cons, List.map_cons, k _ _ h, pd_map k t]
theorem pd_of {α β : Type} {F : α → β → Prop} {f : β → α} (k : ∀ y, F (f y) y) : ∀ l : List β, Paired F (l.map f) l
  | [] => .nil
  | y :: l => .cons (k y) (pd_of k l)
theorem le1 : 1 ≤ sizeLine := by decide
theorem le2 : 2 ≤ sizeLine := by decide
theorem le3 : 3 ≤ sizeLine := by decide
theorem putU_len (f : Str) (v : U) : ∀ fs : List (Str × U), (putU f v fs).length ≤ fs.length + 1
  | [] => by simp [putU]
  | (g, y) :: fs => by
    unfold putU
    split
    · simp
    · simpa using putU_len f v fs
end L3

set_option Elab.async false
set_option linter.all false
set_option maxRecDepth 100000
set_option maxHeartbeats 4000000
namespace L3
open PySem PySem.Spec L2
open PyProof.Rows hiding St
/-! ### lengths of texts -/
theorem sum_le {B : Nat} : ∀ {ss : List Str}, (∀ s ∈ ss, s.length ≤ B) → (ss.map (·.length)).sum ≤ B * ss.length
  | [], _ => by simp
  | s :: ss, h => by
    have h1 := h s (List.mem_cons_self ..)
    have h2 := sum_le fun t ht => h t (List.mem_cons_of_mem s ht)
    rw [List.map_cons, List.sum_cons, List.length_cons, Nat.mul_add]
    omega
theorem join_len (y : Str) : ∀ ss : List Str, (Txt.join y ss).length ≤ (ss.map (·.length)).sum + ss.length * y.length
  | [] => by rw [TL.join_eq]; show (PySem.Str.empty).length ≤ _; exact Nat.zero_le _
  | [s] => by rw [TL.join_eq]; show s.length ≤ _; simp
  | s :: t :: r => by
    have ih := join_len y (t :: r)
    rw [TL.join_eq] at ih ⊢
    show (s ++ y ++ PySem.Str.join y (t :: r)).length ≤ _
    rw [PySem.Str.length_append, PySem.Str.length_append]
    simp only [List.map_cons, List.sum_cons, List.length_cons, Nat.add_mul, Nat.one_mul] at ih ⊢
    omega
theorem join_nil (y : Str) : Txt.join y [] = PySem.Str.empty := by rw [TL.join_eq]; rfl
theorem join_one (y s : Str) : Txt.join y [s] = s := by rw [TL.join_eq]; rfl
theorem join_cons2 (y s t : Str) (r : List Str) : Txt.join y (s :: t :: r) = s ++ y ++ Txt.join y (t :: r) := by rw [TL.join_eq, TL.join_eq]; rfl
theorem str_empty_eq : ("" : Str) = PySem.Str.empty := rfl
theorem app_assoc (a b c : Str) : a ++ b ++ c = a ++ (b ++ c) := PySem.Str.append_assoc a b c
theorem app_empty (a : Str) : a ++ ("" : Str) = a := PySem.Str.append_empty a
theorem empty_app (a : Str) : ("" : Str) ++ a = a := PySem.Str.empty_append a
/-- texts joined by nothing -/
theorem join0_cons (s : Str) (r : List Str) : Txt.join "" (s :: r) = s ++ Txt.join "" r := by
  cases r with
  | nil => rw [join_one, join_nil, ← str_empty_eq, app_empty]
  | cons t r => rw [join_cons2, app_empty]
/-! ### seq, with what holds between -/
theorem seq_cut {t u : TS'} {d : Ends'} {z : SL} {M : Mp} (J : SL → Mp → Prop) (hv : ∀ z M, J z M → u d z M) (h : (∀ z M, J z M → u d z M) → sSeq t u d z M) : sSeq t u d z M := h hv
/-! ### indices -/
theorem atI_in {α : Type} {xs : List α} {i : Int} (h0 : 0 ≤ i) (h1 : i < xs.length) : ∃ v, xs[i.toNat]? = some v ∧ atI xs i = some v := by
  have hl : i.toNat < xs.length := by omega
  refine ⟨xs[i.toNat], List.getElem?_eq_getElem hl, ?_⟩
  have := atI_nat (xs := xs) (j := i.toNat) (List.getElem?_eq_getElem hl)
  rwa [Int.toNat_of_nonneg h0] at this
theorem atI_mem {α : Type} {xs : List α} {i : Int} (h0 : 0 ≤ i) (h1 : i < xs.length) : ∃ v ∈ xs, atI xs i = some v := by
  obtain ⟨v, e, h⟩ := atI_in h0 h1
  exact ⟨v, List.mem_of_getElem? e, h⟩
theorem atI_int {ns : List Int} {i : Int} (h0 : 0 ≤ i) (h1 : i < ns.length) : ∃ v ∈ ns, atI (ns.map U.int) i = some (.int v) := by
  obtain ⟨v, e, h⟩ := atI_in (xs := ns.map U.int) h0 (by simpa using h1)
  rw [List.getElem?_map] at e
  cases e' : ns[i.toNat]? with
  | none => rw [e'] at e; cases e
  | some w =>
    rw [e'] at e
    cases e
    exact ⟨w, List.mem_of_getElem? e', h⟩
theorem ixN_in {n : Nat} {i : Int} (h0 : 0 ≤ i) (h1 : i < n) : ixN n i = some i.toNat := by
  unfold ixN
  rw [if_pos h0, if_pos h1]
theorem lenU_lst {M : Mp} {a : Addr} {xs : List U} (h : M a = some (.lst xs)) : lenU M (.ref a) = some xs.length := by
  show (match M a with | some (.lst xs) => some xs.length | some (.dic false _ kvs) => some kvs.length | _ => none) = _
  rw [h]
theorem seqL_ref {M : Mp} {a : Addr} {xs : List U} (h : M a = some (.lst xs)) : seqL M (.ref a) = some xs := by
  show (match M a with | some (.lst xs) => some xs | _ => none) = _
  rw [h]
theorem dTs_ints : ∀ ns : List Int, dTs (ns.map U.int) = some (ns.map PyData.int)
  | [] => rfl
  | n :: ns => by
    rw [List.map_cons]
    unfold dTs
    rw [dTs_ints ns]
    rfl
theorem dM_ints {M : Mp} {a : Addr} {ns : List Int} (h : M a = some (.lst (ns.map U.int))) : dM M (.ref a) = some (.list (ns.map PyData.int)) := by
  show (match M a with | some (.lst xs) => (dTs xs).map PyData.list | _ => none) = _
  rw [h]
  show (dTs (ns.map U.int)).map PyData.list = _
  rw [dTs_ints]
  rfl
theorem canLay_ints : ∀ ns : List Int, PyData.canLayAll0 (ns.map PyData.int) = true
  | [] => rfl
  | n :: ns => by
    rw [List.map_cons]
    unfold PyData.canLayAll0
    rw [canLay_ints ns]
    rfl
theorem okD_ints (ns : List Int) : okD (.list (ns.map PyData.int)) := by
  unfold okD SeqAt.shaped
  have h := PySem.W.depth_ints ns
  simp [PyData.canLay0, PyData.depth, canLay_ints ns, h]
theorem eqv_nil : ∀ ns : List Int, PyData.eqv (.list (ns.map PyData.int)) (.list []) = decide (ns = [])
  | [] => rfl
  | _ :: _ => by simp [PyData.eqv, PyData.eqvAll]
theorem mulOk {i j : Int} (h1 : -(2 ^ 64) < i) (h2 : i < 2 ^ 64) : IntMulOk i j := CMul.ok (.inl ⟨h1, h2⟩)
theorem mulOk' {i j : Int} (h1 : -(2 ^ 64) < j) (h2 : j < 2 ^ 64) : IntMulOk i j := CMul.ok (.inr ⟨h1, h2⟩)
/-- for i in range(n): W by the number -/
theorem range_at {n : Nat} {i : Nat} {x : U} (h : (rangeU 0 (n : Int).toNat)[i]? = some x) : i < n ∧ x = .int i := by
  obtain ⟨h1, h2⟩ := rangeU_get h
  exact ⟨by simpa using h1, by rw [h2]; congr 1; omega⟩
theorem w62_nat {n : Nat} (h : n ≤ 1000000) : w62 (n : Int) := by
  unfold w62
  omega
end L3

set_option Elab.async false
set_option linter.all false
set_option maxRecDepth 100000
set_option maxHeartbeats 4000000
namespace L3
open PySem PySem.Spec L2
open PyProof.Rows hiding St
section
variable {X : Cx} {x : Str} {p pos apos cpos : Pos} {o e f : Expr} {es : List Expr} {to te : TE'} {ta : TA'} {C : Addr}
/-! ### x.split(y) -/
def rSplit : RM' := fun u us M q => one us fun y => ∃ a b, u = .str a ∧ y = .str b ∧ (b.length == 0) = false ∧ a.length + 2 ≤ sizeLine ∧ newL ((Txt.split a b).map U.str) M q
theorem repL_str {K : Frag} {H : Hp} : ∀ ss : List Str, RepL K H (ss.map U.str) (ss.map V.str)
  | [] => .nil
  | _ :: ss => .cons .s (repL_str ss)
theorem MtR.fz {id : String} {r : V → List V → Hp → VK → Prop} (h : MtR X id r) : MtR X id (fun x xs H Q => r x xs H (L3.fz Q)) :=
  fun pins s σ H x xs v us Q I rx rs q => thn (h pins s σ H x xs v us (L3.fz Q) I rx rs q) fun _ _ e => EP.fz e
theorem m_split : MtR X "str.split" (lowM X.K rSplit) := mthU (MtR.fz mt_split) fun u us x xs H M q Q ru rr m h P => by
  obtain ⟨y, rfl, a, b, rfl, rfl, hb, hz, h⟩ := one_inv h
  obtain ⟨v, rfl, r⟩ := rr.one_inv
  exact ⟨a, b, rstr ru, by rw [rstr r], hb, hz, fun p hp => newL_ok m (repL_str _) h P hp⟩
theorem qm_split (ho : QE X o to) (ha : QE X e te) (hbase : attributeBase o "split" X.env (eval o X.env) = eval o X.env := by rfl)
    (hfew : ((backTo cpos (starEach [e] X.env)).all (fun x => !x.1) && (backToKw cpos (keywordEach [] X.env)).all (fun x => x.1.isSome) && decide (([e] : List Expr).length + ([] : List Keyword).length + (if ([] : List Keyword).isEmpty then 0 else 1) < 30)) = true := by rfl)
    (hline : (apos.endLine == cpos.line) = true := by rfl) (hs : starEach [e] X.env = (false, eval e X.env) :: starEach [] X.env := by rfl) (hplain : (backTo cpos (starEach [] X.env)).any (·.1) = false := by rfl) :
    QE X (.Call (.Attribute o "split" apos) [e] [] cpos) (eM isS rSplit to (eCons te eNil)) :=
  qe_bm PySem.F.plainAttrs_str PySem.F.slot_str_split PySem.F.type_str_split m_split isS_ty ho (qa_cons ha qa_nil hs) hbase hfew hline hs hplain
/-! ### isinstance(x, C), C one's own class -/
def insB (K : Frag) (x : Str) : Bool := He.eqO (PySem.W.findIn K (.ref (He.ga K x)) "__class__") (some (some (.builtin "object.__class__"))) && (He.eqO (PySem.W.specialIn K (.builtin "object.__class__") "__get__") (some (some (.builtin "getset_descriptor.__get__"))) &&
  (decide (PySem.W.takesIn K (.builtin "object.__class__") = some true) && (decide (PySem.W.mroIn K (He.ga K x) (.type "object") = some true) && decide (PySem.W.kitOne K (.ref (He.ga K x)) (.ref (He.ga K x)) = some true))))
theorem insB_ok {K : Frag} {x : Str} (c : Cls K (He.ga K x)) (h : insB K x = true) : C8.InsC K (He.ga K x) := by
  unfold insB at h
  simp only [Bool.and_eq_true, decide_eq_true_eq] at h
  obtain ⟨h1, h2, h3, h4, h5⟩ := h
  exact ⟨c, He.eqO_ok h1, He.eqO_ok h2, h3, h4, h5⟩
def rIsO (C : Addr) : RC' := fun us M q => two us fun u c => c = .ref C ∧ ∃ a fs, u = .ref a ∧ M a = some (.ins C fs) ∧ q (.bl true) M
theorem c_isO (c : C8.InsC X.K C) : CallR X (.builtin "isinstance") (lowC X.K (rIsO C)) := callU (C8.call_isC c) fun us xs H M q Q rr m h P => by
  obtain ⟨u, w, rfl, rfl, a, fs, rfl, e, h⟩ := two_inv h
  obtain ⟨v, y, rfl, r1, r2⟩ := rr.two_inv
  obtain ⟨dx, l, e1, _⟩ := m a _ e
  exact ⟨a, dx, l, by rw [rref r1, rref r2], e1, P.val h m .b⟩
/-- an own class as a value -/
theorem qe_gref {a : Addr} (hm : X.mg x = some (.ref a)) (hg : Gl X x := by rfl) (hd : (x == ("__debug__" : Str)) = false := by decide) : QE X (.Name x pos) (eC (.ref a)) :=
  qe_cst (pe_glob (v := .ref a) hg hm rfl hd) fun H => .r
/-! ### all, any; sum, min, max of a list of ints; abs -/
def rBls (f : List Bool → Bool) : RC' := fun us M q => one us fun u => ∃ bs : List Bool, seqL M u = some (bs.map U.bl) ∧ q (.bl (f bs)) M
theorem repL_bls {K : Frag} {H : Hp} : ∀ {bs : List Bool} {vs : List V}, RepL K H (bs.map U.bl) vs → vs = bs.map V.bl
  | [], vs, h => by simpa only [List.map_nil, RepL] using h
  | b :: bs, vs, h => by
    simp only [List.map_cons, RepL] at h
    obtain ⟨v, r, rfl, h1, h2⟩ := h
    rw [rbl h1, repL_bls h2, List.map_cons]
theorem repL_ints {K : Frag} {H : Hp} : ∀ {ns : List Int} {vs : List V}, RepL K H (ns.map U.int) vs → vs = ns.map V.int
  | [], vs, h => by simpa only [List.map_nil, RepL] using h
  | b :: bs, vs, h => by
    simp only [List.map_cons, RepL] at h
    obtain ⟨v, r, rfl, h1, h2⟩ := h
    rw [rint h1, repL_ints h2, List.map_cons]
theorem c_all (hc : X.calm = true) : CallR X (.builtin "all") (lowC X.K (rBls fun bs => bs.all id)) := callU (cr_all hc) fun us xs H M q Q rr m h P => by
  obtain ⟨u, rfl, bs, e, h⟩ := one_inv h
  obtain ⟨v, rfl, r⟩ := rr.one_inv
  obtain ⟨a, vs, rfl, s, r'⟩ := seqL_of m e r
  rw [repL_bls r'] at s
  exact ⟨a, bs, rfl, s, P.val h m .b⟩
theorem c_any (hc : X.calm = true) : CallR X (.builtin "any") (lowC X.K (rBls fun bs => bs.any id)) := callU (cr_any hc) fun us xs H M q Q rr m h P => by
  obtain ⟨u, rfl, bs, e, h⟩ := one_inv h
  obtain ⟨v, rfl, r⟩ := rr.one_inv
  obtain ⟨a, vs, rfl, s, r'⟩ := seqL_of m e r
  rw [repL_bls r'] at s
  exact ⟨a, bs, rfl, s, P.val h m .b⟩
def rSumU : RC' := fun us M q => one us fun u => ∃ ns : List Int, seqL M u = some (ns.map U.int) ∧ q (.int ns.sum) M
theorem c_sum (hc : X.calm = true) : CallR X (.builtin "sum") (lowC X.K rSumU) := callU (cr_sum hc) fun us xs H M q Q rr m h P => by
  obtain ⟨u, rfl, ns, e, h⟩ := one_inv h
  obtain ⟨v, rfl, r⟩ := rr.one_inv
  obtain ⟨a, vs, rfl, s, r'⟩ := seqL_of m e r
  rw [repL_ints r'] at s
  exact ⟨a, ns, rfl, s, P.val h m .i⟩
def rMaxU : RC' := fun us M q => one us fun u => ∃ ns : List Int, seqL M u = some (ns.map U.int) ∧ 0 < ns.length ∧ ∀ k, k ∈ ns → (∀ y ∈ ns, y ≤ k) → q (.int k) M
theorem c_max1 (hc : X.calm = true) : CallR X (.builtin "max") (lowC X.K rMaxU) := callU (cr_max hc) fun us xs H M q Q rr m h P => by
  obtain ⟨u, rfl, ns, e, h0, h⟩ := one_inv h
  obtain ⟨v, rfl, r⟩ := rr.one_inv
  obtain ⟨a, vs, rfl, s, r'⟩ := seqL_of m e r
  rw [repL_ints r'] at s
  exact ⟨a, ns, rfl, s, h0, fun k hk hy => P.val (h k hk hy) m .i⟩
def rMinU : RC' := fun us M q => one us fun u => ∃ ns : List Int, seqL M u = some (ns.map U.int) ∧ 0 < ns.length ∧ ∀ k, k ∈ ns → (∀ y ∈ ns, k ≤ y) → q (.int k) M
theorem c_min1 (hc : X.calm = true) : CallR X (.builtin "min") (lowC X.K rMinU) := callU (cr_min hc) fun us xs H M q Q rr m h P => by
  obtain ⟨u, rfl, ns, e, h0, h⟩ := one_inv h
  obtain ⟨v, rfl, r⟩ := rr.one_inv
  obtain ⟨a, vs, rfl, s, r'⟩ := seqL_of m e r
  rw [repL_ints r'] at s
  exact ⟨a, ns, rfl, s, h0, fun k hk hy => P.val (h k hk hy) m .i⟩
def rAbs : RC' := fun us M q => one us fun u => asI u fun i => q (.int (if i < 0 then -i else i)) M
theorem c_abs : CallR X (.builtin "abs") (lowC X.K rAbs) := callU call_abs fun us xs H M q Q rr m h P => by
  obtain ⟨u, rfl, h⟩ := one_inv h
  obtain ⟨i, rfl, h⟩ := asI_inv h
  obtain ⟨v, rfl, r⟩ := rr.one_inv
  exact ⟨i, by rw [rint r], P.val h m .i⟩
end
end L3

set_option Elab.async false
set_option linter.all false
set_option maxRecDepth 100000
set_option maxHeartbeats 4000000
namespace L3
open PySem PySem.Spec L2
open PyProof.Rows hiding St
/-! ### lists that may change, read -/
theorem seqL_iter {M : Mp} {u : U} {xs : List U} {r : List U → (Mp → Prop) → Mp → Prop} (h : seqL M u = some xs) (hr : r xs (fun M' => seqL M' u = some xs) M) : iterQ u M r := ⟨by
  cases u with
  | lst ys => cases h; exact ⟨_, rfl, hr⟩
  | ref a => exact ⟨_, h, hr⟩
  | _ => cases h⟩
theorem Keep.seqL {d : Addr} {M M' : Mp} (k : Keep d M M') {u : U} {xs : List U} (h : L3.seqL M u = some xs) (hd : ∀ ys, M d ≠ some (.lst ys)) : L3.seqL M' u = some xs := by
  cases u with
  | ref a =>
    have h' : (match M a with | some (.lst xs) => some xs | _ => none) = some xs := h
    cases e : M a with
    | none => rw [e] at h'; cases h'
    | some o =>
      rw [e] at h'
      cases o with
      | lst ys =>
        cases h'
        refine seqL_ref (k a _ ?_ e)
        intro hh
        subst hh
        exact hd _ e
      | _ => cases h'
  | lst ys => exact h
  | _ => cases h
theorem seqL_A {M : Mp} {u : U} {xs : List U} (h : seqL M u = some xs) : seqA M u = some xs := by
  cases u with
  | lst ys => exact h
  | ref a => exact h
  | _ => cases h
theorem seqA_ty {M : Mp} {u : U} {xs : List U} (h : seqA M u = some xs) : tyN M u = some "tuple" ∨ tyN M u = some "list" := by
  cases u with
  | tup ys => exact .inl rfl
  | kt ys => exact .inl rfl
  | lst ys => exact .inr rfl
  | ref a =>
    have h' : (match M a with | some (.lst xs) => some xs | _ => none) = some xs := h
    cases e : M a with
    | none => rw [e] at h'; cases h'
    | some o =>
      rw [e] at h'
      cases o with
      | lst ys =>
        refine .inr ?_
        show (match M a with | some (.lst _) => some "list" | some (.dic false _ _) => some "dict" | some (.dic true false _) => some "dict" | _ => none) = _
        rw [e]
      | _ => cases h'
  | _ => cases h
end L3

set_option Elab.async false
set_option linter.all false
set_option maxRecDepth 100000
set_option maxHeartbeats 4000000
namespace L3
open PySem PySem.Spec L2
open PyProof.Rows hiding St
/-! ### a hook that looks at the interpreter's own table, too -/
def asY (g : Addr → Option Obj) (n : Nat) : List Addr := He.asD g n ++ [cStatics]
def obsY (n : Nat) (fa : List He.Fa) (fn : List He.DefD) (ex : Frag → Bool) (g : Addr → Option Obj) : He.AlD × Bool := (He.obsD fa fn (He.frT g (asY g n)), ex (He.frT g (asY g n)))
def hookY (n : Nat) (fa : List He.Fa) (fn : List He.DefD) (ex : Frag → Bool) : PySem.W.Hook where
  α := He.AlD × Bool
  obs := fun s => obsY n fa fn ex s.heap.get?
  val := fun _ => (He.valD fn, true)
  says := fun _ h => ∃ K : Frag, K.In h ∧ He.SaysD fa fn K ∧ ex K = true
  of := fun _ _ e => ⟨_, He.frT_in, congrArg (fun z : He.AlD × Bool => z.1) e, congrArg (fun z : He.AlD × Bool => z.2) e⟩
  keeps := fun _ _ _ ⟨K, hK, c⟩ k => ⟨K, PySem.W.Frag.In.keeps hK k, c⟩
theorem obsY_eq {n : Nat} {fa : List He.Fa} {fn : List He.DefD} {ex : Frag → Bool} {g : Addr → Option Obj} {s : Shared} (h : ∀ a, g a = s.heap.get? a) : obsY n fa fn ex g = (hookY n fa fn ex).obs s := by
  rw [show g = s.heap.get? from funext h] <;> rfl
/-- no token's sharing is left untold -/
def nbB (K : Frag) : Bool := match K.lookup cStatics with
  | some ⟨_, _, .dict es _, _⟩ => (nsFind es sharingNotToldKey).isNone
  | _ => false
theorem nbB_ok {K : Frag} {h : Heap} (b : nbB K = true) (k : K.In h) (nl : h.NoLimit) : NoneBooked h := by
  obtain ⟨mc, ⟨o, es, ep, e, d, sk, f⟩, _⟩ := nl
  refine ⟨mc, ⟨o, es, ep, e, d, sk, f⟩, ?_⟩
  unfold nbB at b
  cases q : K.lookup cStatics with
  | none => rw [q] at b; cases b
  | some o2 =>
    have e2 := k _ _ q
    rw [e] at e2
    cases e2
    rw [q] at b
    obtain ⟨oc, od, dt, sl⟩ := o
    have d' : dt = .dict es ep := d
    subst d'
    have b' : (nsFind es sharingNotToldKey).isNone = true := b
    rw [f] at b'
    exact Option.isNone_iff_eq_none.mp b'
/-! ### a call of a local name that holds a def -/
def eCallV (i : Nat) (S : List (Addr × Sp')) (W : WX') (ta : TA') : TE' := fun z M q => match getS z i with
  | some (.ref f) => ∃ sp, (f, sp) ∈ S ∧ ta z M fun us M1 => sp us M1 q fun C fs M2 => W C fs z M2
  | _ => False
section
variable {X : Cx} {k i : Nat} {x : Str} {p pos : Pos} {e : Expr} {es : List Expr} {W : WX'} {ta : TA'} {S : List (Addr × Sp')}
theorem qe_callV (D : ∀ q ∈ S, ∃ ps j, j ≤ k ∧ Def' X.prog X.w X.K X.mg X.base j q.1 ps q.2) (hr : Room k X.A) (hg : X.A.guards = some []) (tk : Takes X (lowW X.K W)) (ha : QA X (e :: es) ta)
    (hN : X.N[i]? = some x := by rfl) (hv : Vis X.env.scope x := by first | exact Or.inl rfl | exact Or.inr (Or.inl rfl) | exact Or.inr (Or.inr rfl)) (hdb : (x == ("__debug__" : Str)) = false := by decide) (hcd : (x == ("__classdict__" : Str)) = false := by decide)
    (he : starEach (e :: es) X.env = (false, eval e X.env) :: starEach es X.env := by rfl) (hpl : (backTo pos (starEach es X.env)).any (·.1) = false := by rfl) : QE X (.Call (.Name x p) (e :: es) [] pos) (eCallV i S W ta) := by
  refine ⟨fun pins s σ H Q I h => ?_⟩
  obtain ⟨z, M, q, hs, m, hq, P⟩ := h
  have hq' : ∃ f sp, getS z i = some (.ref f) ∧ (f, sp) ∈ S ∧ ta z M fun us M1 => sp us M1 q fun C fs M2 => W C fs z M2 := by
    unfold eCallV at hq
    cases g : getS z i with
    | none => rw [g] at hq; exact hq.elim
    | some u =>
      rw [g] at hq
      cases u with
      | ref f => obtain ⟨sp, h1, h2⟩ := hq; exact ⟨f, sp, rfl, h1, h2⟩
      | _ => exact (show False from hq).elim
  obtain ⟨f, sp, hz, hm, hta⟩ := hq'
  obtain ⟨ps, j, hj, D1⟩ := D _ hm
  obtain ⟨fd, b, F⟩ := D1.ex
  obtain ⟨v, hv1, hv2⟩ := hs.at_ i _ hz
  have ev := rref hv2
  subst ev
  refine wpAny_Call_Name_kw (thn ((pe_var (pos := p) hN hv hdb hcd).run pins s σ H (fun v H1 => v = .ref f ∧ H1 = H) I ⟨.ref f, hv1, rfl, rfl⟩) fun u s1 ⟨v, H1, I1, r1, q1⟩ => ?_)
  obtain ⟨rfl, rfl⟩ := q1
  cases r1
  refine PySem.W.callWith_K (h₀ := X.base) I1.ok.mod.kin D1.kp (thn (ha.run pos pins s1 σ H1 (fun vs H2 => lowSp X.K sp vs H2 Q (fun c d H' => lowW X.K W c d σ H')) I1 ⟨z, M, _, hs, m, hta, fun us M1 h1 vs H2 r m1 k1 => low_call r m1 (hs.keep k1.tk) (P.step k1) h1⟩) fun us s2 ⟨vs, H2, I2, r, q2⟩ => ⟨I2.kIn, run_fnG (us := us) F (hr.mono hj) hg b tk I2 r q2⟩) he hpl
end
/-! ### xs[lo:hi:step] of a list, by the places -/
def pickU (xs : List U) (lo hi st : Option Int) : List U := (PySem.sliceRange (PySem.sliceBounds lo hi st xs.length).1 (PySem.sliceBounds lo hi st xs.length).2.1 (PySem.sliceBounds lo hi st xs.length).2.2).filterMap (xs[·]?)
theorem RepL.fmap {K : Frag} {H : Hp} {us : List U} {vs : List V} (r : RepL K H us vs) : ∀ l : List Nat, RepL K H (l.filterMap (us[·]?)) (l.filterMap (vs[·]?))
  | [] => .nil
  | i :: l => by
    rw [List.filterMap_cons, List.filterMap_cons]
    cases e : us[i]? with
    | none =>
      have hl := r.len
      rw [List.getElem?_eq_none (l := vs) (by rw [← hl]; exact List.getElem?_eq_none_iff.mp e)]
      exact RepL.fmap r l
    | some u =>
      obtain ⟨v, hv, rv⟩ := r.get e
      rw [hv]
      exact .cons rv (RepL.fmap r l)
theorem vals_fmap {vs : List V} {us : List Value} (r : Vals vs us) : ∀ l : List Nat, Vals (l.filterMap (vs[·]?)) (l.filterMap (us[·]?))
  | [] => .nil
  | i :: l => by
    rw [List.filterMap_cons, List.filterMap_cons]
    cases e : vs[i]? with
    | none =>
      rw [List.getElem?_eq_none (l := us) (by rw [← r.length]; exact List.getElem?_eq_none_iff.mp e)]
      exact vals_fmap r l
    | some v =>
      obtain ⟨w, hw, rv⟩ := r.get e
      rw [hw]
      exact .cons rv (vals_fmap r l)
def pickV (xs : List V) (lo hi st : Option Int) : List V := (PySem.sliceRange (PySem.sliceBounds lo hi st xs.length).1 (PySem.sliceBounds lo hi st xs.length).2.1 (PySem.sliceBounds lo hi st xs.length).2.2).filterMap (xs[·]?)
theorem pe_slice3 {X : Cx} {e : Expr} {te : TE} {lo hi st : Option Expr} {tl th ts : TO} {p2 pos : Pos} (he : PE X e te) (hl : PO X lo tl) (hh : PO X hi th) (hst : PO X st ts)
    (hs3 : ∀ (a b : Addr), subscripted (.Slice lo hi st p2) false (.ref a) (.ref b) = operate [.ref a, .ref b] (getItem (.ref a) (.ref b)) := by intro _ _; with_unfolding_all rfl) :
    PE X (.Subscript e (.Slice lo hi st p2) pos) (fun σ H Q => te σ H fun x H1 => tl σ H1 fun l H2 => th σ H2 fun u H3 => ts σ H3 fun k H4 => ∃ a xs, x = .ref a ∧ SqL X.K H4 a xs ∧ k ≠ some 0 ∧ (pickV xs l u k).length ≤ sizeLine ∧ ∀ p, H4 p = none → Q (.ref p) (upd H4 p (.lst (pickV xs l u k)))) := by
  refine ⟨fun pins s σ H Q I h => ?_⟩
  refine Subscript_ (thn (he.run pins s σ H _ I h) fun v s1 ⟨x, H1, I1, r1, q1⟩ => ?_)
  refine wpAny_Slice (thn (hl.run pins s1 σ H1 _ I1 q1) fun vl s2 ⟨l, H2, I2, pl, q2⟩ => ?_)
  refine thn (hh.run pins s2 σ H2 _ I2 q2) fun vu s3 ⟨u, H3, I3, pu, q3⟩ => ?_
  refine thn (hst.run pins s3 σ H3 _ I3 q3) fun vs s4 ⟨k, H4, I4, ps, a, xs, ex, hx, hk, hz2, q⟩ => ?_
  subst ex
  cases r1
  have I5 : Inv X pins σ H4 { s4 with heap := s4.heap.push { cls := .type "slice", data := .fields #[vl, vu, vs] } } := I4.kept (t' := s4.toks) fun b ob q => Heap.get?_push_of_some _ q
  obtain ⟨its, r, ht, hz⟩ := I5.list hx
  have hlen := r.length
  show wpAny (model X.prog X.w) X.A (subscriptTail e (.Slice lo hi st p2) (.ref a) (.ref s4.heap.objs.size)) (EP X pins σ Q) X.xe { s4 with heap := s4.heap.push { cls := .type "slice", data := .fields #[vl, vu, vs] } }
  refine tail_any (ops := [.ref a, .ref s4.heap.objs.size]) ht.isList.typeIs (PySem.slot_list_getitem.lookup) ?_ (hs3 _ _)
  refine wpAny_getItem_list_slice ht.isList (Heap.IsSliceOf.new _ vl vu vs) pl pu ps hk ?_ (by rw [List.size_toArray]; omega)
  have hpick : slicePick its.toArray l u k = ((PySem.sliceRange (PySem.sliceBounds l u k xs.length).1 (PySem.sliceBounds l u k xs.length).2.1 (PySem.sliceBounds l u k xs.length).2.2).filterMap (its[·]?)).toArray := by
    unfold slicePick
    rw [List.size_toArray, ← hlen]
    simp
  rw [hpick]
  refine ⟨.ref _, _, I5.laid (t' := s4.toks) (o := .lst (pickV xs l u k)) (fun b ob q => Heap.get?_push_of_some _ q) (Nat.le_refl _) ?_, rfl, q _ (I5.hok.fresh (Nat.le_refl _))⟩
  exact ⟨hz2, _, 0, vals_fmap r _, Heap.get?_push_size _ rfl⟩
def eSl3 (te : TE') (tl th ts : TO') : TE' := fun z M q => te z M fun x M1 => tl z M1 fun lo M2 => th z M2 fun hi M3 => ts z M3 fun st M4 => st ≠ some 0 ∧ ∃ xs, seqL M4 x = some xs ∧ (pickU xs lo hi st).length ≤ sizeLine ∧ newL (pickU xs lo hi st) M4 q
theorem qe_slice3 {X : Cx} {e : Expr} {te : TE'} {lo hi st : Option Expr} {tl th ts : TO'} {p2 pos : Pos} (he : QE X e te) (hl : QO X lo tl) (hh : QO X hi th) (hst : QO X st ts)
    (hs3 : ∀ (a b : Addr), subscripted (.Slice lo hi st p2) false (.ref a) (.ref b) = operate [.ref a, .ref b] (getItem (.ref a) (.ref b)) := by intro _ _; with_unfolding_all rfl) : QE X (.Subscript e (.Slice lo hi st p2) pos) (eSl3 te tl th ts) :=
  imE (PE.fz (pe_slice3 he hl hh hst hs3)) fun σ H Q ⟨z, M, q, rs, m, h, P⟩ =>
  ⟨z, M, _, rs, m, h, fun x M1 h1 v H1 r1 m1 k1 => ⟨z, M1, _, rs.keep k1.tk, m1, h1, fun l M2 h2 H2 m2 k2 => ⟨z, M2, _, (rs.keep k1.tk).keep k2.tk, m2, h2, fun u M3 h3 H3 m3 k3 =>
    ⟨z, M3, _, ((rs.keep k1.tk).keep k2.tk).keep k3.tk, m3, h3, fun k M4 h4 H4 m4 k4 => by
      obtain ⟨hk, xs, e, hz, hq⟩ := h4
      have r4 := ((r1.keep k2.tk).keep k3.tk).keep k4.tk
      obtain ⟨a, vs, rfl, s, r⟩ := seqL_of m4 e r4
      have hl4 : pickV vs l u k = (PySem.sliceRange (PySem.sliceBounds l u k xs.length).1 (PySem.sliceBounds l u k xs.length).2.1 (PySem.sliceBounds l u k xs.length).2.2).filterMap (vs[·]?) := by unfold pickV; rw [← r.len]
      have rr : RepL X.K H4 (pickU xs l u k) (pickV vs l u k) := by rw [hl4]; exact r.fmap _
      exact ⟨a, vs, rfl, s, hk, by rw [← rr.len]; exact hz, fun p hp => newL_ok m4 rr hq (P.step (((k1.trans k2).trans k3).trans k4)) hp⟩⟩⟩⟩⟩
theorem fmap_congr {α β : Type} {f g : α → Option β} : ∀ {l : List α}, (∀ x ∈ l, f x = g x) → l.filterMap f = l.filterMap g
  | [], _ => rfl
  | x :: l, h => by
    rw [List.filterMap_cons, List.filterMap_cons, h x (List.mem_cons_self ..), fmap_congr fun y hy => h y (List.mem_cons_of_mem _ hy)]
/-- xs[:0:-1] -/
theorem pick_tailrev (xs : List U) : pickU xs none (some 0) (some (-1)) = xs.tail.reverse := by
  cases xs with
  | nil => rfl
  | cons x t =>
    unfold pickU
    have hb : PySem.sliceBounds none (some 0) (some (-1)) (x :: t).length = ((t.length : Int), 0, -1) := by
      unfold PySem.sliceBounds
      simp
      omega
    rw [hb]
    have hr : PySem.sliceRange (t.length : Int) 0 (-1) = (List.range t.length).map fun k => t.length - k := by
      unfold PySem.sliceRange
      have h1 : ¬ ((-1 : Int) > 0) := by decide
      rw [if_neg h1]
      by_cases h : (t.length : Int) > 0
      · rw [if_pos h]
        have e : ((t.length : Int) - 0 - -1 - 1) / (- -1) = (t.length : Int) := by
          rw [show (- -1 : Int) = 1 by decide, Int.ediv_one]
          omega
        rw [e]
        show List.map (fun (k : Nat) => ((t.length : Int) + -1 * (k : Int)).toNat) (List.range (Int.toNat (t.length : Int))) = _
        rw [Int.toNat_natCast]
        exact List.map_congr_left fun k hk => by
          have := List.mem_range.mp hk
          omega
      · have e : t.length = 0 := by omega
        rw [if_neg h, e]
        rfl
    show (PySem.sliceRange (t.length : Int) 0 (-1)).filterMap _ = t.reverse
    rw [hr, List.filterMap_map]
    have e2 : (List.range t.length).filterMap (((x :: t)[·]?) ∘ fun k => t.length - k) = ((List.range t.length).map fun k => t.length - 1 - k).filterMap (t[·]?) := by
      rw [List.filterMap_map]
      refine fmap_congr fun k hk => ?_
      have := List.mem_range.mp hk
      show (x :: t)[t.length - k]? = t[t.length - 1 - k]?
      rw [show t.length - k = (t.length - 1 - k) + 1 by omega, List.getElem?_cons_succ]
    rw [e2, PySem.W.krv_range, List.filterMap_reverse]
    have e3 := PySem.W.krv_all t.toArray
    simp at e3
    rw [e3]
/-! ### a line with more blanks: texts times numbers, replace -/
section
variable {X : Cx} {o e f : Expr} {to te tf : TE} {a y z : Str} {j0 j1 j2 : Nat} {c0 c1 c2 p0 p1 p2 apos pos : Pos}
/-- a written text times a number: its token is not an older one -/
theorem mul_tok {pins : List (Addr × Obj)} {σ : L2.St} {H : Hp} {s : Shared} {k : Int} {t tk n0 : Nat} {Q : Value → Shared → Prop} (ht : t < s.toks) (hn : n0 ≤ t) (hk : 1 ≤ k) (hk2 : k ≤ 1000000) (hz : z.length * k.toNat ≤ 10000000)
    (I : Inv X pins σ H s) (h : ∀ t' tk', n0 ≤ t' → Q (.str (repS z k.toNat) t') { s with toks := tk' }) : wpAny (model X.prog X.w) X.A (binaryOp .Mult (.str z t) (.int k tk)) Q X.xe s := by
  have hs : (sizeLine : Nat) = 16777216 := by decide
  refine P.mul_str (by rw [decide_eq_false (by omega), decide_eq_false (by omega)]; rfl) (fun hk' hn' => ?_) (fun hk' hn' => ?_) ?_
  · have hk1 : k ≠ 1 := by intro e; subst e; simp at hn'
    have hzl : z.length ≤ 10000000 := by
      have : z.length * 1 ≤ z.length * k.toNat := Nat.mul_le_mul_left _ (by omega)
      omega
    have : (10000000 : Int) ≤ (2 ^ 63 - 1) / k := by
      rw [Int.le_ediv_iff_mul_le (by omega)]
      omega
    omega
  · unfold Builtin.Str.tooLong
    exact decide_eq_false (by rw [hs]; omega)
  · rw [if_neg (by omega : ¬ k < 1)]
    by_cases hn' : (k == 1 || z.length == 0) = true
    · rw [if_pos hn']
      have e : repS z k.toNat = z := by
        simp only [Bool.or_eq_true, beq_iff_eq] at hn'
        rcases hn' with hn' | hn'
        · rw [hn']; exact repS_one z
        · exact repS_empty hn' _
      rw [e] at h
      exact h t s.toks hn
    · rw [if_neg hn', repS_eq]
      exact ⟨by rw [repS_len, Nat.mul_comm]; omega, h _ _ (by omega)⟩
def tLoose (te : TE) (to : TE) (tf : TE) (a y z : Str) : TE := fun σ H Q => te σ H fun n H1 => ∃ k : Int, n = .int k ∧ 0 ≤ k ∧ k ≤ 1000 ∧ a.length ≤ 1 ∧ z.length ≤ 1 ∧ to σ H1 fun v H2 => ∃ x : Str, v = .str x ∧ x.length ≤ 10000 ∧
  tf σ H2 fun m H3 => ∃ j : Int, m = .int j ∧ 1 ≤ j ∧ j ≤ 1000 ∧ Q (.str (repS a k.toNat ++ Txt.replace x y (repS z j.toNat))) H3
theorem pe_loose (nb : nbB X.K = true) (he : PE X e te) (ho : PE X o to) (hf : PE X f tf)
    (hst : starEach [.Constant (.str y) j1 c1, .BinOp (.Constant (.str z) j2 c2) .Mult f p2] X.env = [(false, eval (.Constant (.str y) j1 c1) X.env), (false, eval (.BinOp (.Constant (.str z) j2 c2) .Mult f p2) X.env)] := by rfl)
    (hbase : attributeBase o "replace" X.env (eval o X.env) = eval o X.env := by rfl) (hline : (apos.endLine == p1.line) = true := by rfl) :
    PE X (.BinOp (.BinOp (.Constant (.str a) j0 c0) .Mult e p0) .Add (.Call (.Attribute o "replace" apos) [.Constant (.str y) j1 c1, .BinOp (.Constant (.str z) j2 c2) .Mult f p2] [] p1) pos) (tLoose te to tf a y z) := by
  refine ⟨fun pins s σ H Q I h => ?_⟩
  have hsz : (sizeLine : Nat) = 16777216 := by decide
  refine wpAny_BinOp (wpAny_BinOp (Calls.Constant_str (wpAny_mono (PySem.wpAny_toks_of (n := s.toks + 1) (Nat.le_refl _) (he.run pins { s with toks := s.toks + 1 } σ H _ (I.tok _) h)) (fun n s1 q1 => ?_) fun _ _ z => z.2)))
  obtain ⟨hk1, nv, H1, I1, r1, k, rfl, k0, k1, ha1, hz1, q1⟩ := q1
  obtain ⟨tn, rfl⟩ := r1
  -- the first product
  refine wpAny_mono (PySem.wpAny_toks_of (n := s.toks + 1) hk1 (op_repS pins s1 σ H1 (.str a) (.int k) (.str a s.toks) (.int k tn) (fun v H' => v = .str (repS a k.toNat) ∧ H' = H1) I1 ⟨_, rfl⟩ ⟨_, rfl⟩ ⟨a, k, rfl, rfl, by omega, by omega, ?_, rfl, rfl⟩)) (fun w s2 q2 => ?_) fun _ _ z => z.2
  · have : a.length * k.toNat ≤ 1 * k.toNat := Nat.mul_le_mul_right _ ha1
    omega
  obtain ⟨hk2, wv, H2, I2, r2, rfl, rfl⟩ := q2
  -- replace
  refine PySem.Call_method2 hbase hst hline (wpAny_mono (PySem.wpAny_toks_of (n := s.toks + 1) hk2 (ho.run pins s2 σ H2 _ I2 q1)) (fun v s3 q3 => ?_) fun _ _ z => z.2)
  obtain ⟨hk3, vv, H3, I3, r3, x, rfl, hx, q3⟩ := q3
  obtain ⟨tx, rfl⟩ := r3
  refine ⟨"str", _, PySem.F.plainAttrs_str, PySem.F.slot_str_replace, PySem.F.type_str_replace, typeIs_str _ _ _, (fun _ e => nomatch e), Calls.callWith_builtin rfl (Calls.evalArgs_plain (Calls.spliced_cons ?_))⟩
  refine Calls.Constant_str (Calls.spliced_cons (wpAny_BinOp (Calls.Constant_str ?_)))
  refine wpAny_mono (PySem.wpAny_toks_of (n := s3.toks + 1 + 1) (Nat.le_refl _) (hf.run pins _ σ H3 _ (I3.tok (s3.toks + 1 + 1)) q3)) (fun m s4 q4 => ?_) fun _ _ z => z.2
  obtain ⟨hk4, mv, H4, I4, r4, j, rfl, j0, j1, q4⟩ := q4
  obtain ⟨tm, rfl⟩ := r4
  have hzj : z.length * j.toNat ≤ 1 * j.toNat := Nat.mul_le_mul_right _ hz1
  refine mul_tok (t := s3.toks + 1) (n0 := s3.toks + 1) hk4 (Nat.le_refl _) j0 (by omega) (by omega) I4 fun t' tk' ht' => ?_
  refine Calls.spliced_nil ?_
  have hlz : (repS z j.toNat).length ≤ 1000 := by rw [repS_len]; rw [Nat.mul_comm]; omega
  have hb1 : (x.length + 1) * (repS z j.toNat).length ≤ 10001 * 1000 := Nat.mul_le_mul (by omega) hlz
  have hb : x.length + (x.length + 1) * (repS z j.toNat).length ≤ 16777216 := by omega
  refine PySem.SC.replaceA (by show s3.toks ≠ (0 : Nat); omega) (by show t' ≠ (0 : Nat); omega) (by show s3.toks ≠ t'; omega) hb (fun t2 k2 => ?_) (nbB_ok nb I4.kIn I4.nolimit)
  have hl2 := TK.replace_len x y (repS z j.toNat)
  have hla : (repS a k.toNat).length ≤ 1000 := by
    rw [repS_len]
    have : k.toNat * a.length ≤ k.toNat * 1 := Nat.mul_le_mul_left _ ha1
    omega
  refine op_add_str pins _ σ H4 (.str (repS a k.toNat)) (.str (Txt.replace x y (repS z j.toNat))) w (.str (Txt.replace x y (repS z j.toNat)) t2) Q (I4.tok k2) r2 ⟨_, rfl⟩ ⟨_, _, rfl, rfl, ?_, q4⟩
  omega
end
section
variable {X : Cx} {o e f : Expr} {to te tf : TE'} {a y z : Str} {j0 j1 j2 : Nat} {c0 c1 c2 p0 p1 p2 apos pos : Pos}
def eLoose (te to tf : TE') (a y z : Str) : TE' := fun s M q => te s M fun n M1 => asI n fun k => 0 ≤ k ∧ k ≤ 1000 ∧ a.length ≤ 1 ∧ z.length ≤ 1 ∧ to s M1 fun v M2 => ∃ x, v = .str x ∧ x.length ≤ 10000 ∧ tf s M2 fun m M3 => asI m fun j => 1 ≤ j ∧ j ≤ 1000 ∧ q (.str (repS a k.toNat ++ Txt.replace x y (repS z j.toNat))) M3
theorem qe_loose (nb : nbB X.K = true) (he : QE X e te) (ho : QE X o to) (hf : QE X f tf)
    (hst : starEach [.Constant (.str y) j1 c1, .BinOp (.Constant (.str z) j2 c2) .Mult f p2] X.env = [(false, eval (.Constant (.str y) j1 c1) X.env), (false, eval (.BinOp (.Constant (.str z) j2 c2) .Mult f p2) X.env)] := by rfl)
    (hbase : attributeBase o "replace" X.env (eval o X.env) = eval o X.env := by rfl) (hline : (apos.endLine == p1.line) = true := by rfl) :
    QE X (.BinOp (.BinOp (.Constant (.str a) j0 c0) .Mult e p0) .Add (.Call (.Attribute o "replace" apos) [.Constant (.str y) j1 c1, .BinOp (.Constant (.str z) j2 c2) .Mult f p2] [] p1) pos) (eLoose te to tf a y z) :=
  imE (pe_loose nb he ho hf hst hbase hline) fun σ H Q ⟨z, M, q, rs, m, h, P⟩ => ⟨z, M, _, rs, m, h, fun x M1 h1 v H1 r1 m1 k1 => by
    obtain ⟨k, rfl, k0, k1', a1, z1, h1⟩ := asI_inv h1
    refine ⟨k, rint r1, k0, k1', a1, z1, z, M1, _, rs.keep k1.tk, m1, h1, fun x M2 h2 v H2 r2 m2 k2 => ?_⟩
    obtain ⟨x, rfl, hx, h2⟩ := h2
    refine ⟨x, rstr r2, hx, z, M2, _, (rs.keep k1.tk).keep k2.tk, m2, h2, fun u M3 h3 v H3 r3 m3 k3 => ?_⟩
    obtain ⟨j, rfl, j0, j1, h3⟩ := asI_inv h3
    exact ⟨j, rint r3, j0, j1, (P.step ((k1.trans k2).trans k3)).val h3 m3 .s⟩⟩
end
/-! ### tuple(range(..)), list(range(..)) -/
section
variable {X : Cx} {a b : Expr} {ta tb : TE'} {p p2 pos pos2 : Pos}
def eTupR (ta : TE') : TE' := fun z M q => ta z M fun x M1 => asI x fun n => 0 ≤ n ∧ n ≤ 16777216 ∧ newT (rangeU 0 n.toNat) M1 q
def eLstR (ta : TE') : TE' := fun z M q => ta z M fun x M1 => asI x fun n => 0 ≤ n ∧ n ≤ 16777216 ∧ newL (rangeU 0 n.toNat) M1 q
def eLstR2 (ta tb : TE') : TE' := fun z M q => ta z M fun x M1 => tb z M1 fun y M2 => asI x fun i => asI y fun j => 0 ≤ i ∧ i ≤ 16777216 ∧ 0 ≤ j ∧ j ≤ 16777216 ∧ newL (rangeU i (j - i).toNat) M2 q
theorem rgV_rep {K : Frag} {H : Hp} (i j : Int) : RepL K H (rangeU i (j - i).toNat) (rgV i j) := by
  have e1 : rangeU i (j - i).toNat = ((List.range (j - i).toNat).map fun k : Nat => i + (k : Int)).map U.int := by unfold rangeU; rw [List.map_map]; rfl
  have e2 : rgV i j = ((List.range (j - i).toNat).map fun k : Nat => i + (k : Int)).map V.int := by unfold rgV; rw [List.map_map]; rfl
  rw [e1, e2]
  exact repL_int _
theorem qe_tupR (hc : X.calm = true) (hm : X.mg "tuple" = none) (hr : X.mg "range" = none) (ha : QE X a ta) (hg : Gl X "tuple" := by rfl) (hg2 : Gl X "range" := by rfl) (n1 : starEach [a] X.env = (false, eval a X.env) :: starEach [] X.env := by rfl)
    (n2 : starEach [(.Call (.Name "range" p2) [a] [] pos2)] X.env = (false, eval (.Call (.Name "range" p2) [a] [] pos2) X.env) :: starEach [] X.env := by rfl) :
    QE X (.Call (.Name "tuple" p) [.Call (.Name "range" p2) [a] [] pos2] [] pos) (eTupR ta) := imE (pe_tupRg hc hg hm (prg_1 hg2 hr ha n1) n2) fun σ H Q ⟨z, M, q, rs, m, h, P⟩ => ⟨z, M, _, rs, m, h, fun x M1 h1 v H1 r1 m1 k1 => by
  obtain ⟨n, rfl, h0, h2, h3⟩ := asI_inv h1
  refine ⟨n, rint r1, .of_le (Int.le_refl 0) h2 (by decide) h0, fun p hp => ?_⟩
  have r := rgV_rep (K := X.K) (H := H1) 0 n
  rw [Int.sub_zero] at r
  exact newT_ok m1 r h3 (P.step k1) hp⟩
theorem qe_lstR (hc : X.calm = true) (hm : X.mg "list" = none) (hr : X.mg "range" = none) (ha : QE X a ta) (hg : Gl X "list" := by rfl) (hg2 : Gl X "range" := by rfl) (n1 : starEach [a] X.env = (false, eval a X.env) :: starEach [] X.env := by rfl)
    (n2 : starEach [(.Call (.Name "range" p2) [a] [] pos2)] X.env = (false, eval (.Call (.Name "range" p2) [a] [] pos2) X.env) :: starEach [] X.env := by rfl) :
    QE X (.Call (.Name "list" p) [.Call (.Name "range" p2) [a] [] pos2] [] pos) (eLstR ta) := imE (PE.fz (pe_listRg hc hg hm (prg_1 hg2 hr ha n1) n2)) fun σ H Q ⟨z, M, q, rs, m, h, P⟩ => ⟨z, M, _, rs, m, h, fun x M1 h1 v H1 r1 m1 k1 => by
  obtain ⟨n, rfl, h0, h2, h3⟩ := asI_inv h1
  refine ⟨n, rint r1, .of_le (Int.le_refl 0) h2 (by decide) h0, fun p hp => ?_⟩
  have r := rgV_rep (K := X.K) (H := H1) 0 n
  rw [Int.sub_zero] at r
  exact newL_ok m1 r h3 (P.step k1) hp⟩
theorem qe_lstR2 (hc : X.calm = true) (hm : X.mg "list" = none) (hr : X.mg "range" = none) (ha : QE X a ta) (hb : QE X b tb) (hg : Gl X "list" := by rfl) (hg2 : Gl X "range" := by rfl) (n1 : starEach [a, b] X.env = (false, eval a X.env) :: starEach [b] X.env := by rfl) (n1b : starEach [b] X.env = (false, eval b X.env) :: starEach [] X.env := by rfl)
    (hp2 : (backTo pos2 (starEach [b] X.env)).any (·.1) = false := by rfl)
    (n2 : starEach [(.Call (.Name "range" p2) [a, b] [] pos2)] X.env = (false, eval (.Call (.Name "range" p2) [a, b] [] pos2) X.env) :: starEach [] X.env := by rfl) :
    QE X (.Call (.Name "list" p) [.Call (.Name "range" p2) [a, b] [] pos2] [] pos) (eLstR2 ta tb) := imE (PE.fz (pe_listRg hc hg hm (prg_2 hg2 hr ha hb n1 n1b hp2) n2)) fun σ H Q ⟨z, M, q, rs, m, h, P⟩ => ⟨z, M, _, rs, m, h, fun x M1 h1 v H1 r1 m1 k1 => ⟨z, M1, _, rs.keep k1.tk, m1, h1, fun y M2 h2 v2 H2 r2 m2 k2 => by
  obtain ⟨i, rfl, h4⟩ := asI_inv h2
  obtain ⟨j, rfl, a1, a2, a3, a4, h3⟩ := asI_inv h4
  refine ⟨i, j, rint r1, rint r2, .of_le a1 a4 a2 a3, fun p hp => ?_⟩
  exact newL_ok m2 (rgV_rep (K := X.K) (H := H2) i j) h3 (P.step (k1.trans k2)) hp⟩⟩
end
end L3

set_option Elab.async false
set_option linter.all false
set_option maxRecDepth 100000
set_option maxHeartbeats 4000000
namespace L3
open PySem PySem.Spec L2
open PyProof.Rows hiding St
/-! ### tuples times numbers -/
theorem tup_mul0 (l : Addr) (items : Array Value) (n : Nat) (dd : Option Addr) (sl : Array (Option Value)) (u : Tok) (ce : items.isEmpty = false) :
    Meets (Builtin.«tuple.__mul__» ⟨[.ref l, .int 0 u], []⟩) (fun _ R s => s.heap.get? l = some { cls := .type "tuple", dict := dd, data := .seq items n, slots := sl } ∧
      R (.ok (.ret (Value.ref s.heap.objs.size))) { s with heap := s.heap.push { cls := Value.type "tuple", data := Data.seq #[] }, toks := s.toks }) :=
  .of_wp fun prog w A R s h => by
    obtain ⟨hp, g, d, tk, os⟩ := s
    obtain ⟨hl, h⟩ := h
    have f1 := AutoSeq1.idx_int
    have c1 : (items.isEmpty || (0 : Int) == 1) = false := by rw [ce]; rfl
    wp_walk using wpAny_loadPart' hl
    repeat (first
      | (refine wpAny_ite_false (decide_eq_false (by rw [c1]; exact Bool.false_ne_true)) ?_; wp_walk using wpAny_loadPart' hl)
      | (refine wpAny_ite_false (decide_eq_false (by decide)) ?_; wp_walk using wpAny_loadPart' hl)
      | (refine wpAny_ite_true (decide_eq_true (by rfl)) ?_; wp_walk using wpAny_loadPart' hl))
    exact ⟨_, rfl, h⟩
section
variable {X : Cx}
theorem op_repT0 : OpR X (binaryOp .Mult) (fun x y H Q => ∃ l xs, x = .ref l ∧ y = .int 0 ∧ SqT X.K H l xs ∧ xs ≠ [] ∧ ∀ p, H p = none → Q (.ref p) (upd H p (.tup []))) := by
  intro pins s σ H x y v u Q I rx ry h
  obtain ⟨l, xs, rfl, rfl, hT, hne, q⟩ := h
  cases rx
  obtain ⟨t, rfl⟩ := ry
  obtain ⟨its, r, ⟨⟨cls, dd, data, sl⟩, ho, hc, n, hd⟩, hs⟩ := I.tuple hT
  simp only at hc hd
  subst hc hd
  have hle : its.length = xs.length := r.length.symm
  have hi : its.toArray.isEmpty = false := by
    cases its with
    | nil => exact absurd (List.eq_nil_of_length_eq_zero hle.symm) hne
    | cons a b => rfl
  refine wpAny_binaryOp_repeat_ref (T := "tuple") (U := "int") (by decide) ⟨_, ho, rfl⟩ (fun s' => typeIs_int s' 0 t) noFill_tuple_mul F.fills_int_mul F.slot_int_rmul repeat_tuple F.slot_int_index.lookup
    (call_meets F.slot_int_rmul (typeIs_int s 0 t) F.entry_int_rmul (F.args_int_rmul_2 _ _) (int_rmul_tuple 0 t l its.toArray n dd sl)
      ⟨ho, rfl, ⟨_, ho, rfl⟩, call_meets F.slot_tuple_mul ⟨_, ho, rfl⟩ F.entry_tuple_mul (F.args_tuple_mul_2 _ _) (tup_mul0 l its.toArray n dd sl t hi) ⟨ho, ?_⟩⟩)
  refine ⟨.ref s.heap.objs.size, _, I.laid (t' := s.toks) (o := .tup []) (fun b ob q => Heap.get?_push_of_some _ q) (Nat.le_refl _) ?_, rfl, q _ (I.hok.fresh (Nat.le_refl _))⟩
  exact ⟨Nat.zero_le _, [], .nil, IsTup.new _ _⟩
def rMulT : R2' := fun x y M q => ∃ xs k, seqT x = some xs ∧ y = .int k ∧ xs ≠ [] ∧ ((k = 0 ∧ q (.tup []) M) ∨ (2 ≤ k ∧ k ≤ 1000 ∧ xs.length ≤ 1000 ∧ q (.tup (List.replicate k.toNat xs).flatten) M))
theorem o_mulT : OpR X (binaryOp .Mult) (lowR X.K rMulT) := opU (op_repT0.or op_repT) fun u w x y H M q Q ru rw' m hq P => by
  obtain ⟨xs, k, e, rfl, hne, h⟩ := hq
  obtain ⟨a, vs, rfl, s, r⟩ := seqT_of e ru
  have hv : vs ≠ [] := fun z => hne (List.eq_nil_of_length_eq_zero (by rw [r.len, z]; rfl))
  rcases h with ⟨rfl, h⟩ | ⟨h1, h2, h3, h⟩
  · exact .inl ⟨a, vs, rfl, rint rw', s, hv, fun p hp => newT_ok m .nil (.inl h) P hp⟩
  · exact .inr ⟨a, k, vs, rfl, rint rw', s, hv, h1, h2, by rw [← r.len]; exact h3, fun p hp => newT_ok m (r.rep k.toNat) (.inl h) P hp⟩
end
end L3

set_option Elab.async false
set_option linter.all false
set_option maxRecDepth 100000
set_option maxHeartbeats 4000000
namespace L3
open PySem PySem.Spec L2
open PyProof.Rows hiding St
/-! ### exceptions: what the written part says of their classes -/
structure XcC (K : Frag) (C : Addr) : Prop where
  hc : (PySem.W.clsIn K C).isSome = true
  hg : PySem.W.findIn K (.ref C) "__getattribute__" = some (some (.builtin "BaseException.__getattribute__"))
  hk : PySem.W.findIn K (.ref C) "__getattr__" = some none
  hs : PySem.W.subIn K (.ref C) (.type "BaseException") = some true
  hd : PySem.W.hasDictIn K C = true
  ha : PySem.W.findIn K (.ref C) "__class__" = some (some (.builtin "object.__class__"))
  hn : PySem.W.specialIn K (.builtin "object.__class__") "__get__" = some (some (.builtin "getset_descriptor.__get__"))
  ht : PySem.W.takesIn K (.builtin "object.__class__") = some true
  hm : PySem.W.mroIn K C (.type "object") = some true
def xcB (K : Frag) (C : Addr) : Bool :=
  (PySem.W.clsIn K C).isSome && (decide (PySem.W.findIn K (.ref C) "__getattribute__" = some (some (.builtin "BaseException.__getattribute__"))) && (decide (PySem.W.findIn K (.ref C) "__getattr__" = some none) &&
  (decide (PySem.W.subIn K (.ref C) (.type "BaseException") = some true) && (PySem.W.hasDictIn K C && (decide (PySem.W.findIn K (.ref C) "__class__" = some (some (.builtin "object.__class__"))) &&
  (decide (PySem.W.specialIn K (.builtin "object.__class__") "__get__" = some (some (.builtin "getset_descriptor.__get__"))) && (decide (PySem.W.takesIn K (.builtin "object.__class__") = some true) && decide (PySem.W.mroIn K C (.type "object") = some true))))))))
theorem xcB_ok {K : Frag} {C : Addr} (h : xcB K C = true) : XcC K C := by
  unfold xcB at h
  simp only [Bool.and_eq_true, decide_eq_true_eq] at h
  obtain ⟨h1, h2, h3, h4, h5, h6, h7, h8, h9⟩ := h
  exact ⟨h1, h2, h3, h4, h5, h6, h7, h8, h9⟩
/-! ### an object that is there is known from now on -/
section
variable {X : Cx} {pins : List (Addr × Obj)} {σ : L2.St} {H : Hp} {s : Shared}
theorem Inv.adopt {a : Addr} {oe : Obj} (I : Inv X pins σ H s) (he : s.heap.get? a = some oe) (na : H a = none) (n0 : X.s_0.heap.get? a = none) (nL : a ≠ X.env.locals) (nc : ∀ x c, X.env.cells.lookup x = some c → c ≠ a) (np : ∀ p ∈ X.pn ++ pins, p.1 ≠ a) :
    Inv X pins σ (upd H a (xcT a oe)) s := by
  have n1 : ∀ b o, X.s_0.heap.get? b = some o → b ≠ a := fun b o e z => by rw [z, n0] at e; cases e
  have n2 : ∀ b o, H b = some o → b ≠ a := fun b o e z => by rw [z, na] at e; cases e
  refine ⟨I.ok, I.os, I.bare, ⟨I.base.keep, I.base.slot, fun b o e n hx => ?_, I.base.there, fun b xs e => ?_, fun b o u e => ?_, fun b ps e => ?_⟩, I.loc, I.cell, ?_, fun x c e => ?_, fun p hp => ?_, fun b u e => ?_, I.len⟩
  · rw [upd_ne (n1 b o e)]; exact I.base.free b o e n hx
  · have q := I.base.tups b xs e
    rw [upd_ne (n2 _ _ q)]; exact q
  · have q := I.base.frzs b o u e
    rw [upd_ne (n2 _ _ q)]; exact q
  · obtain ⟨m, q⟩ := I.base.tbls b ps e
    exact ⟨m, by rw [upd_ne (n2 _ _ q)]; exact q⟩
  · rw [upd_ne (Ne.symm nL)]; exact I.free
  · rw [upd_ne (nc x c e)]; exact I.freeC x c e
  · obtain ⟨h1, h2, h3, h4, h5⟩ := I.pin p hp
    exact ⟨h1, by rw [upd_ne (np p hp)]; exact h2, h3, h4, h5⟩
  · by_cases z : b = a
    · subst z
      rw [upd_same] at e
      cases e
      exact ⟨he, he, ⟨oe, he⟩, fun h1 h2 q k => k _ q⟩
    · rw [upd_ne z] at e
      exact (I.hok b u e).stay (fun c v _ q => q) (fun c q => by rw [upd_ne (n2 _ _ q)]; exact q) fun c xs q => by rw [upd_ne (n2 _ _ q)]; exact q
/-- an exception's dict is known from now on -/
theorem Inv.lockX {d : Addr} {l : List (Str × V)} (I : Inv X pins σ H s) (h : H d = some (.xd l)) : ∃ od, Inv X pins σ (upd H d (.frz od (.xd l))) s := by
  have x := I.hok d _ h
  obtain ⟨od, ho⟩ : ∃ od, s.heap.get? d = some od := by
    obtain ⟨mA, ⟨o, es, ep, e, r⟩, _⟩ := x
    exact ⟨o, e⟩
  have n1 : ∀ b, H b = none → b ≠ d := fun b e z => by rw [z, h] at e; cases e
  have n2 : ∀ b xs, H b = some (.tup xs) → b ≠ d := fun b o e z => by rw [z, h] at e; cases e
  have n3 : ∀ b o u, H b = some (.frz o u) → b ≠ d := fun b o u e z => by rw [z, h] at e; cases e
  have n4 : ∀ b ps, H b = some (.tbl ps) → b ≠ d := fun b o e z => by rw [z, h] at e; cases e
  have n5 : ∀ b c, H b = some (.own c) → b ≠ d := fun b o e z => by rw [z, h] at e; cases e
  refine ⟨od, I.ok, I.os, I.bare, ⟨I.base.keep, I.base.slot, fun b o e n hx => ?_, I.base.there, fun b xs e => ?_, fun b o u e => ?_, fun b ps e => ?_⟩, I.loc, I.cell, ?_, fun x c e => ?_, fun p hp => ?_, fun b u e => ?_, I.len⟩
  · have q := I.base.free b o e n hx
    rw [upd_ne (n1 _ q)]; exact q
  · have q := I.base.tups b xs e
    rw [upd_ne (n2 _ _ q)]; exact q
  · have q := I.base.frzs b o u e
    rw [upd_ne (n3 _ _ _ q)]; exact q
  · obtain ⟨m, q⟩ := I.base.tbls b ps e
    exact ⟨m, by rw [upd_ne (n4 _ _ q)]; exact q⟩
  · rw [upd_ne (n1 _ I.free)]; exact I.free
  · rw [upd_ne (n1 _ (I.freeC x c e))]; exact I.freeC x c e
  · obtain ⟨h1, h2, h3, h4, h5⟩ := I.pin p hp
    exact ⟨h1, by rw [upd_ne (n1 _ h2)]; exact h2, h3, h4, h5⟩
  · by_cases z : b = d
    · subst z
      rw [upd_same] at e
      cases e
      exact ⟨ho, x.stay (fun c v _ q => q) (fun c q => by rw [upd_ne (n5 _ _ q)]; exact q) fun c xs q => by rw [upd_ne (n2 _ _ q)]; exact q⟩
    · rw [upd_ne z] at e
      exact (I.hok b u e).stay (fun c v _ q => q) (fun c q => by rw [upd_ne (n5 _ _ q)]; exact q) fun c xs q => by rw [upd_ne (n2 _ _ q)]; exact q
end
/-! ### isinstance of an exception that is held -/
def cvU : U → Option Value
  | .ref D => some (.ref D)
  | .ty n => some (.type n)
  | _ => none
theorem RX.inst {K : Frag} {P : Program} {w : World} {H : Hp} {h : Heap} {a C : Addr} {fs : List (Str × U)} (r : RX K H a C fs) (hok : HOk P w H h) : ∃ oe od, PySem.W.InstAt h a oe C od := by
  obtain ⟨oe, h1, h2, ⟨vs, h3⟩, h4⟩ := r
  obtain ⟨hget, _⟩ := hok a _ h1
  have hno : PySem.W.notCls oe = true := by unfold PySem.W.notCls; rw [h3] <;> rfl
  rcases h4 with ⟨_, e⟩ | ⟨dd, od, l, e, e2, _⟩
  · exact ⟨oe, none, hget, h2, hno, by rw [e]; trivial⟩
  · obtain ⟨hd, _⟩ := hok dd _ e2
    exact ⟨oe, some od, hget, h2, hno, by rw [e]; exact hd⟩
def rIsX (K : Frag) : RC' := fun us M q => two us fun u c => ∃ a C fs cv b, u = .ref a ∧ M a = some (.exc C fs) ∧ XcC K C ∧ cvU c = some cv ∧ PySem.W.kitOne K (.ref C) cv = some b ∧ q (.bl b) M
theorem c_isX {X : Cx} : CallR X (.builtin "isinstance") (lowC X.K (rIsX X.K)) := by
  rintro pins s σ H xs us Q I r ⟨ws, M, q, rr, m, h, P⟩
  obtain ⟨u, c, rfl, a, C, fs, cv, b, rfl, hM, T, hc, hk, hq⟩ := two_inv h
  obtain ⟨v, y, rfl, r1, r2⟩ := rr.two_inv
  have ev := rref r1
  subst ev
  cases r with
  | cons rx rr2 =>
    cases rr2 with
    | cons rt rr3 =>
      cases rr3
      cases rx
      obtain ⟨oe, od, J⟩ := RX.inst (m a _ hM) I.hok
      have ec : ∀ w, RelV y w → w = cv := fun w rw' => by
        cases c with
        | ref D =>
          cases hc
          have := rref r2
          subst this
          cases rw'
          rfl
        | ty n =>
          cases hc
          have := rty r2
          subst this
          cases rw'
          rfl
        | _ => cases hc
      have ec2 := ec _ rt
      subst ec2
      exact PySem.W.kia_one (PySem.W.kitx_exc T.hc T.hg T.hk T.hs T.ha T.hn T.ht T.hm) I.kIn J hk (fun z => nomatch z) fun tk => ⟨.bl b, H, I.kept (t' := tk) fun _ _ z => z, rfl, P.val hq m .b⟩
/-! ### a field of an exception that is held -/
def eFldX (K : Frag) (to : TE') (f : Str) : TE' := fun z M q => to z M fun x M1 => ∃ a C fs v, x = .ref a ∧ M1 a = some (.exc C fs) ∧ XcC K C ∧ PySem.W.findIn K (.ref C) f = some none ∧ fs.lookup f = some v ∧ q v M1
theorem qe_fldX {X : Cx} {o : Expr} {to : TE'} {f : Str} {pos : Pos} (ho : QE X o to) (hb : attributeBase o f X.env (eval o X.env) = eval o X.env := by rfl) : QE X (.Attribute o f pos) (eFldX X.K to f) := by
  refine ⟨fun pins s σ H Q I h => ?_⟩
  obtain ⟨z, M, q, rs, m, h, P⟩ := h
  refine attr_of hb (thn (ho.run pins s σ H (fun v H1 => ∃ (x : U) (M1 : Mp), Rep X.K H1 x v ∧ RM X.K H1 M1 ∧ SK H M H1 M1 ∧ ∃ a C fs w, x = .ref a ∧ M1 a = some (.exc C fs) ∧ XcC X.K C ∧ PySem.W.findIn X.K (.ref C) f = some none ∧ fs.lookup f = some w ∧ q w M1) I
    ⟨z, M, _, rs, m, h, fun u M1 h1 v H1 r1 m1 k1 => ⟨u, M1, r1, m1, k1, h1⟩⟩) fun u s1 hh => ?_)
  obtain ⟨v, H1, I1, rv, x, M1, r1, m1, k1, a, C, fs, w, rfl, hM, T, hno, hl, hq⟩ := hh
  have ev := rref r1
  subst ev
  obtain rfl : u = Value.ref a := rv
  obtain ⟨oe, h1, h2, ⟨vs, h3⟩, h4⟩ := m1 a _ hM
  rcases h4 with ⟨e, _⟩ | ⟨dd, od, l, e, e2, e3, re⟩
  · rw [e] at hl; cases hl
  · obtain ⟨hget, _⟩ := I1.hok a _ h1
    obtain ⟨hgd, hx⟩ := I1.hok dd _ e2
    obtain ⟨mA, hns, hr⟩ := hx
    obtain ⟨od', ho', hlk⟩ := lookIn_ns hns
    rw [hgd] at ho'
    cases ho'
    have ro := RepL.look (f := f) e3 re
    rw [hl] at ro
    obtain ⟨y, hy, ry⟩ := ro.get
    obtain ⟨u2, hu2, ru2⟩ := RelO.some_of (v := y) (o := mA f) (by rw [← hy]; exact hr f)
    have J : PySem.W.InstAt s1.heap a oe C (some od) := ⟨hget, h2, by unfold PySem.W.notCls; rw [h3] <;> rfl, by rw [e]; exact hgd⟩
    exact HandSPX.exc_get I1.kIn J T.hg T.hk T.hs (PySem.W.findObj_own T.hd hno rfl (by rw [hlk, hu2])) (handed_of ru2) ⟨y, H1, I1.tok _, ru2, P w M1 hq y H1 ry m1 k1⟩
end L3

set_option Elab.async false
set_option linter.all false
set_option maxRecDepth 100000
set_option maxHeartbeats 4000000
namespace L3
open PySem PySem.Spec L2
open PyProof.Rows hiding St
/-! ### raise C(), C() -/
structure XrC (K : Frag) (C : Addr) : Prop where
  ex : PySem.W.excIn K C He.veBase "ValueError.__new__" = true
  kp : PySem.W.keepIn K (.ref C) = true
  sb : PySem.W.subIn K (.ref C) (.type "BaseException") = some true
  ty : PySem.W.typeIn K (.ref C) = some (.type "type")
theorem xrC_of {K : Frag} {x : Str} (c : (He.Fa.exc x).ok K = true) : XrC K (He.ga K x) := by
  obtain ⟨h1, h2, h3, h4⟩ := He.exc_ok c
  exact ⟨h1, h2, h3, h4⟩
def sRaise (C : Addr) (W : WX') : TS' := fun _ z M => W C [] z M
section
variable {X : Cx} {C : Addr} {x : Str} {p pos pos' : Pos} {W : WX'}
theorem pmk_own0 (E : XrC X.K C) (gC : X.mg x = some (.ref C)) (hg : Gl X x) (hdb : (x == ("__debug__" : Str)) = false := by decide) : PMk X (.Call (.Name x p) [] [] pos) (fun σ H Q => Q (.ref C) none H) := by
  intro pins s σ H Q I h
  refine wpAny_Call_Name_kw (ld_glob I hg gC ?_ hdb)
  refine PySem.W.callWith_K0 I.kIn E.kp ?_
  obtain ⟨bm, N, nm, qn, bs, hdct, sn, sub, ab, col, dd, k0, k1, k2, k3, k5, mN, hC, hN, hni, T⟩ := exc_obj I.kIn E.ex
  exact wpAny_call_exc_subT F.excBase_ValueError T hC hN hni (fun h' e hm => mk_of I hm (raises_own E.sb E.ty) h (I.hok.gone hm.new)) (Nat.zero_le _)
theorem qs_raise0 (hc : X.calm = true) (tk : Takes X (lowW X.K W)) (E : XrC X.K C) (gC : X.mg x = some (.ref C)) (hg : Gl X x := by rfl) (hdb : (x == ("__debug__" : Str)) = false := by decide) :
    QS X (.Raise (some (.Call (.Name x p) [] [] pos)) none pos') (sRaise C W) := imS (ps_raise hc tk (pmk_own0 E gC hg hdb)) fun D σ H ⟨z, M, d, rs, m, h, P⟩ =>
  ⟨C, [], z, M, ⟨rfl, .inl ⟨rfl, rfl⟩⟩, rs, m, h⟩
/-- C() as a thing that is held -/
def eMkX (C : Addr) : TE' := fun _ M q => ∀ a, M a = none → q (.ref a) (put M a (.exc C []))
theorem qe_mkX (E : XrC X.K C) (gC : X.mg x = some (.ref C)) (hg : Gl X x := by rfl) (hdb : (x == ("__debug__" : Str)) = false := by decide) : QE X (.Call (.Name x p) [] [] pos) (eMkX C) := by
  refine ⟨fun pins s σ H Q I h => ?_⟩
  obtain ⟨z, M, q, rs, m, h, P⟩ := h
  refine wpAny_Call_Name_kw (ld_glob I hg gC ?_ hdb)
  refine PySem.W.callWith_K0 I.kIn E.kp ?_
  obtain ⟨bm, N, nm, qn, bs, hdct, sn, sub, ab, col, dd, k0, k1, k2, k3, k5, mN, hC, hN, hni, T⟩ := exc_obj I.kIn E.ex
  refine wpAny_call_exc_subT F.excBase_ValueError T hC hN hni (fun h' a hm => ?_) (Nat.zero_le _)
  obtain ⟨t, he, _, _⟩ := hm.there
  have na : H a = none := I.hok.gone hm.new
  refine ⟨.ref a, upd H a (xcT a _), I.laidN (t' := s.toks) hm.keeps hm.new na ⟨he, he, ⟨_, he⟩, fun h1 h2 q k => k _ q⟩, rfl, ?_⟩
  refine P _ _ (h a (m.fresh na)) _ _ .r (m.new (mo := .exc C []) na ⟨_, upd_same, rfl, ⟨_, rfl⟩, .inl ⟨rfl, rfl⟩⟩) (.new na)
end
/-! ### classes whose own __init__ keeps one field -/
def spI (K : Frag) (f : Str) : Sp := fun vs H Q _ => ∃ (a C : Addr) (v : V), vs = [.ref a, v] ∧ OexC K C ∧ PySem.W.findIn K (.ref C) f = some none ∧ H a = some (exo a C none) ∧
  ∀ dx, H dx = none → dx ≠ a → Q .non (upd (upd H dx (exd dx [(f, v)])) a (exo a C (some dx)))
abbrev CX0 : CXT := fun _ _ _ _ _ _ => False
/-- a class: its own __init__ -/
structure XiC (P : Program) (w : World) (K : Frag) (mg : Str → Option Value) (base : Heap) (C : Addr) (f : Str) : Prop where
  T : OexC K C
  no : PySem.W.findIn K (.ref C) f = some none
  ini : ∃ (fI : Addr) (fd : FuncData) (ps : List Str), PySem.W.findIn K (.ref C) "__init__" = some (some (.ref fI)) ∧ PySem.W.typeIn K (.ref fI) = some (.type "function") ∧ FnOk P w K mg base CX0 1 fI fd ps (spI K f) ∧ Binds K fd ps []
def oexB (K : Frag) (C : Addr) : Bool := (match K.lookup C with
  | some ⟨.type "type", _, .cls cd, sl⟩ => (match cd.mro, sl.toList with
    | .ref C' :: bm, [_, _, _, _, some (.builtin n), _] => C' == C && (n == "ValueError.__new__" && (!cd.hasDel && (cd.hasDict && HandSPX.refsVE bm)))
    | _, _ => false)
  | _ => false) && (decide (PySem.W.findIn K (.ref C) "__setattr__" = some (some (.builtin "object.__setattr__"))) && (decide (PySem.W.subIn K (.ref C) (.type "BaseException") = some true) && (decide (PySem.W.typeIn K (.ref C) = some (.type "type")) && PySem.W.keepIn K (.ref C))))
theorem oexB_ok {K : Frag} {C : Addr} (h : oexB K C = true) : OexC K C := by
  unfold oexB at h
  rw [Bool.and_eq_true] at h
  obtain ⟨q, h⟩ := h
  simp only [Bool.and_eq_true, decide_eq_true_eq] at h
  obtain ⟨h2, h3, h4, h5⟩ := h
  refine ⟨?_, h2, h3, h4, h5⟩
  split at q
  · rename_i dd cd sl ho
    split at q
    · rename_i C' bm k0 k1 k2 k3 n k5 hm hs
      simp only [Bool.and_eq_true, beq_iff_eq, Bool.not_eq_true'] at q
      obtain ⟨rfl, rfl, hdel, hdict, hv⟩ := q
      obtain ⟨nm, bs, mro, ns, qn, hd, sn, sub, ab, col, del⟩ := cd
      dsimp only at hm hdel hdict
      subst hm hdel hdict
      have hsl : sl = #[k0, k1, k2, k3, some (.builtin "ValueError.__new__"), k5] := by
        obtain ⟨l⟩ := sl
        simp only at hs
        rw [hs]
      subst hsl
      exact ⟨nm, qn, ns, bs, bm, sn, sub, ab, col, dd, k0, k1, k2, k3, k5, ho, hv⟩
    · cases q
  · cases q
/-- a class with an own __init__ of one field: what the written part must say -/
def xiB (K : Frag) (x f : Str) : Bool := oexB K (He.ga K x) && (decide (PySem.W.findIn K (.ref (He.ga K x)) f = some none) && (decide (PySem.W.findIn K (.ref (He.ga K x)) "__init__" = some (some (.ref (He.ma K (He.ga K x) "__init__")))) && decide (PySem.W.typeIn K (.ref (He.ma K (He.ga K x) "__init__")) = some (.type "function"))))
/-- def __init__(self, f): self.f = f -/
theorem fnI {P : Program} {w : World} {K : Frag} {mg : Str → Option Value} {base : Heap} {f : Addr} {fd : FuncData} {x qual s0 f0 : Str} {st : Stmt} (F : Fun K x qual st f fd) (S : FnScope [s0, f0] [s0, f0] (defScope st))
    (hb : ∀ (cdv : Value) (A : Around) (outer : List Env) (s : Shared) (H : Hp) (E : XK), PSs (cxOf CX0 P w K mg base [s0, f0] qual (defScope st) f cdv A outer s H E) (defBody st) (tOst K f0 (tVar 0) (tVar 1))) :
    FnOk P w K mg base CX0 1 f fd [s0, f0] (spI K f0) := by
  obtain ⟨oc, od, kV, doc, pm, an, cdv, ct, osl, rfl, lk, hcd⟩ := F.ex
  refine fn_of lk hcd S ?_ ?_
  · rintro vs H Q E ⟨a, C, v, rfl, _⟩
    rfl
  · rintro A outer s H vs Q E hr ⟨a, C, v, rfl, T, hno, ha, hq⟩
    refine ⟨_, hb cdv A outer s H E, ?_⟩
    refine ⟨v, rfl, .ref a, rfl, a, C, rfl, T, hno, .inl ⟨ha, fun dx hd hn => hq dx hd hn⟩⟩
theorem xiC_of {P : Program} {w : World} {K : Frag} {mg : Str → Option Value} {base : Heap} {x f : Str} {fd : FuncData} {ps : List Str} (h : xiB K x f = true) (F : FnOk P w K mg base CX0 1 (He.ma K (He.ga K x) "__init__") fd ps (spI K f)) (b : Binds K fd ps []) : XiC P w K mg base (He.ga K x) f := by
  unfold xiB at h
  simp only [Bool.and_eq_true, decide_eq_true_eq] at h
  obtain ⟨h1, h2, h3, h4⟩ := h
  exact ⟨oexB_ok h1, h2, _, fd, ps, h3, h4, F, b⟩
/-- raise C(e) -/
def sRaiseI (C : Addr) (f : Str) (W : WX') (te : TE') : TS' := fun _ z M => te z M fun u M1 => W C [(f, u)] z M1
section
variable {X : Cx} {C : Addr} {x f : Str} {p pos pos' : Pos} {W : WX'} {e : Expr} {te : TE'} {k : Nat}
theorem qs_raiseI (hc : X.calm = true) (tk : Takes X (lowW X.K W)) (E : XiC X.prog X.w X.K X.mg X.base C f) (gC : X.mg x = some (.ref C)) (he : QE X e te) (hr : Room k X.A) (hk : 2 ≤ k := by first | decide | omega) (hg : Gl X x := by rfl) (hdb : (x == ("__debug__" : Str)) = false := by decide)
    (hst : starEach [e] X.env = (false, eval e X.env) :: starEach [] X.env := by rfl) : QS X (.Raise (some (.Call (.Name x p) [e] [] pos)) none pos') (sRaiseI C f W te) := by
  obtain ⟨T, hno, fI, fd, ps, h1, h2, F, b⟩ := E
  refine imS (ps_raise hc tk (pmk_oex T h1 h2 F (hr.mono hk) b .nil (fun _ _ _ _ _ _ _ z => z.elim) hg gC (pa_cons he pa_nil hst) hdb hst rfl)) fun D σ H ⟨z, M, d, rs, m, h, P⟩ => ?_
  refine ⟨z, M, _, rs, m, h, fun u M1 h1 v H1 r1 m1 k1 => ?_⟩
  refine ⟨show 1 ≤ 1000 by decide, fun a ha => ?_⟩
  refine ⟨a, C, v, rfl, T, hno, upd_same, fun dx hd hne => ⟨rfl, dx, [(f, v)], upd_same, ?_, ?_, ?_⟩⟩
  · rw [upd_ne hne, upd_same]
  · rw [upd_ne hne] at hd; exact hd
  · have hd1 : H1 dx = none := by rw [upd_ne hne] at hd; exact hd
    have eH : upd (del (upd (upd (upd H1 a (exo a C none)) dx (exd dx [(f, v)])) a (exo a C (some dx))) a) dx (.xd [(f, v)]) = upd H1 dx (.xd [(f, v)]) := by
      funext b
      by_cases hb : b = dx
      · rw [hb, upd_same, upd_same]
      · rw [upd_ne hb, upd_ne hb]
        by_cases hb2 : b = a
        · rw [hb2, del_same, ha]
        · rw [del_ne hb2, upd_ne hb2, upd_ne hb, upd_ne hb2]
    rw [eH]
    exact ⟨C, [(f, u)], z, M1, ⟨rfl, .inr ⟨dx, [(f, v)], rfl, upd_same, rfl, .cons (r1.keep (.new hd1)) .nil⟩⟩, (rs.keep k1.tk).keep (.new hd1), m1.hid hd1, h1⟩
end
end L3

set_option Elab.async false
set_option linter.all false
set_option maxRecDepth 100000
set_option maxHeartbeats 4000000
namespace L3
open PySem PySem.Spec L2
open PyProof.Rows hiding St
/-! ### a try's body: what it raises is told with what is kept of the heap since the try began -/
abbrev WT (K : Frag) (H0 : Hp) (W : WX') : WX := fun cls d σ H => lowW K W cls d σ H ∧ TK H0 H
def QEx (X : Cx) (e : Expr) (te : WX' → TE') : Prop := ∀ (H0 : Hp) (W : WX'), Takes X (WT X.K H0 W) → PE X e (fun σ H Q => lowE X.K (te W) σ H Q ∧ TK H0 H)
def QSx1 (X : Cx) (st : Stmt) (t : WX' → TS') : Prop := ∀ (H0 : Hp) (W : WX'), Takes X (WT X.K H0 W) → PS X st (fun D σ H => lowS X.K (t W) D σ H ∧ TK H0 H)
def QSx (X : Cx) (body : List Stmt) (t : WX' → TS') : Prop := ∀ (H0 : Hp) (W : WX'), Takes X (WT X.K H0 W) → PSs X body (fun D σ H => lowS X.K (t W) D σ H ∧ TK H0 H)
section
variable {X : Cx} {k n : Nat} {f : Addr} {ps : List Str} {x : Str} {p pos apos : Pos} {e fe : Expr} {es : List Expr} {sp : Sp'} {ta : TA'} {st : Stmt} {rest a b : List Stmt} {t u : WX' → TS'} {te : WX' → TE'}
theorem qex_of {te : TE'} (h : QE X e te) : QEx X e (fun _ => te) := fun H0 W tk => imE h fun σ H Q q => q.1
theorem qsx_of {t : TS'} (h : QS X st t) : QSx1 X st (fun _ => t) := fun H0 W tk => imS h fun D σ H q => q.1
theorem low_callX {K : Frag} {sp : Sp'} {W : WX'} {us : List U} {vs : List V} {σ : L2.St} {z : SL} {H H0 : Hp} {M : Mp} {q : QK} {Q : VK} (r : RepL K H us vs) (m : RM K H M) (hs : RS K H σ z) (P : Post K H M q Q) (k0 : TK H0 H)
    (h : sp us M q fun C fs M2 => W C fs z M2) : lowSp K sp vs H Q (fun c d H' => WT K H0 W c d σ H') :=
  ⟨us, M, q, _, r, m, h, P, fun C fs M' w cls d H' xr m' k' => ⟨⟨C, fs, z, M', xr, hs.keep k'.tk, m', w⟩, k0.trans k'.tk⟩⟩
theorem qex_call (D : Def' X.prog X.w X.K X.mg X.base k f ps sp) (hr : Room n X.A) (hg : X.A.guards = some []) (hm : X.mg x = some (.ref f)) (ha : QA X (e :: es) ta) (hk : k ≤ n := by first | decide | omega) (hgl : Gl X x := by rfl) (hdb : (x == ("__debug__" : Str)) = false := by decide)
    (he : starEach (e :: es) X.env = (false, eval e X.env) :: starEach es X.env := by rfl) (hpl : (backTo pos (starEach es X.env)).any (·.1) = false := by rfl) : QEx X (.Call (.Name x p) (e :: es) [] pos) (fun W => eCall sp W ta) := by
  intro H0 W tk
  obtain ⟨fd, hb, F⟩ := D.ex
  refine ⟨fun pins s σ H Q I h => ?_⟩
  obtain ⟨⟨z, M, q, hs, m, hq, P⟩, k0⟩ := h
  refine wpAny_Call_Name_kw (ld_glob I hgl hm ?_ hdb)
  refine PySem.W.callWith_K (h₀ := X.base) I.ok.mod.kin D.kp ?_ he hpl
  refine thn (ha.run pos pins s σ H (fun vs H1 => lowSp X.K sp vs H1 Q (fun c d H' => WT X.K H0 W c d σ H')) I ⟨z, M, _, hs, m, hq, ?_⟩) ?_
  · intro us M1 h1 vs H1 r m1 k1
    exact low_callX r m1 (hs.keep k1.tk) (P.step k1) (k0.trans k1.tk) h1
  · intro us s1 h1
    obtain ⟨vs, H1, I1, r, q1⟩ := h1
    exact ⟨I1.kIn, run_fnG (us := us) F (hr.mono hk) hg hb tk I1 r q1⟩
/-- a call of what an expression gives: one of several defs -/
def eCallE (S : List (Addr × Sp')) (W : WX') (tf : TE') (ta : TA') : TE' := fun z M q => tf z M fun u M1 => ∃ f sp, u = .ref f ∧ (f, sp) ∈ S ∧ ta z M1 fun us M2 => sp us M2 q fun C fs M3 => W C fs z M3
theorem qex_callE {S : List (Addr × Sp')} {tf : TE'} (D : ∀ q ∈ S, ∃ ps j, j ≤ k ∧ Def' X.prog X.w X.K X.mg X.base j q.1 ps q.2) (hr : Room k X.A) (hg : X.A.guards = some []) (hf : QE X fe tf) (ha : QA X (e :: es) ta)
    (hev : eval (.Call fe (e :: es) [] pos) X.env = (do let f ← eval fe X.env; callWith pos f [] (backTo pos (starEach (e :: es) X.env)) (backToKw pos (keywordEach [] X.env))) := by rfl)
    (he : starEach (e :: es) X.env = (false, eval e X.env) :: starEach es X.env := by rfl) (hpl : (backTo pos (starEach es X.env)).any (·.1) = false := by rfl) : QEx X (.Call fe (e :: es) [] pos) (fun W => eCallE S W tf ta) := by
  intro H0 W tk
  refine ⟨fun pins s σ H Q I h => ?_⟩
  obtain ⟨⟨z, M, q, hs, m, hq, P⟩, k0⟩ := h
  rw [hev]
  refine wpAny_bind (thn (hf.run pins s σ H (fun v H1 => ∃ (x : U) (M1 : Mp), Rep X.K H1 x v ∧ RM X.K H1 M1 ∧ SK H M H1 M1 ∧ ∃ f sp, x = .ref f ∧ (f, sp) ∈ S ∧ ta z M1 fun us M2 => sp us M2 q fun C fs M3 => W C fs z M3) I
    ⟨z, M, _, hs, m, hq, fun u M1 h1 v H1 r1 m1 k1 => ⟨u, M1, r1, m1, k1, h1⟩⟩) fun u s1 hh => ?_)
  obtain ⟨v, H1, I1, rv, x, M1, r1, m1, k1, f, sp, rfl, hS, hta⟩ := hh
  have ev := rref r1
  subst ev
  obtain rfl : u = Value.ref f := rv
  obtain ⟨ps, j, hj, D1⟩ := D _ hS
  obtain ⟨fd, b, F⟩ := D1.ex
  refine PySem.W.callWith_K (h₀ := X.base) I1.ok.mod.kin D1.kp (thn (ha.run pos pins s1 σ H1 (fun vs H2 => lowSp X.K sp vs H2 Q (fun c d H' => WT X.K H0 W c d σ H')) I1 ⟨z, M1, _, hs.keep k1.tk, m1, hta, fun us M2 h2 vs H2 r m2 k2 => low_callX r m2 ((hs.keep k1.tk).keep k2.tk) (P.step (k1.trans k2)) ((k0.trans k1.tk).trans k2.tk) h2⟩) fun us s2 ⟨vs, H2, I2, r, q2⟩ => ⟨I2.kIn, run_fnG (us := us) F (hr.mono hj) hg b tk I2 r q2⟩) he hpl
theorem qsx_expr (he : QEx X e te) (hs : swapsWith e none pos.line X.env = pure false := by rfl) : QSx1 X (.Expr e pos) (fun W => sExpr (te W)) := fun H0 W tk =>
  imS (ps_expr (he H0 W tk) hs) fun D σ H ⟨⟨z, M, d, rs, m, h, P⟩, k0⟩ => ⟨⟨z, M, _, rs, m, h, fun u M' h' v H' r m' k' => P.nx z M' h' σ H' (rs.keep k'.tk) m' k'⟩, k0⟩
theorem qsx_nil : QSx X [] (fun _ => sNext) := fun H0 W tk => imSs qss_nil fun D σ H q => q.1
theorem qsx_one (h : QSx1 X st t) : QSx X [st] t := fun H0 W tk => pss_one (h H0 W tk)
theorem qsx_cons (h1 : QSx1 X st t) (h2 : QSx X rest u) : QSx X (st :: rest) (fun W => sSeq (t W) (u W)) := fun H0 W tk =>
  imSs (pss_cons (h1 H0 W tk) (h2 H0 W tk)) fun D σ H ⟨⟨z, M, d, rs, m, h, P⟩, k0⟩ =>
    ⟨⟨z, M, _, rs, m, h, ⟨fun z' M' h' σ' H' rs' m' k' => ⟨⟨z', M', d, rs', m', h', P.step k'⟩, k0.trans k'.tk⟩, P.rt, P.bk, P.ct⟩⟩, k0⟩
theorem qsx_set {i : Nat} {x : Str} {pos' : Pos} (hN : X.N.Nodup) (he : QEx X e te) (hi : X.N[i]? = some x := by rfl) (hx : Loc X.env.scope x := by first | exact Or.inl rfl | exact Or.inr rfl) (hs : swapsWith e (some (.Name x pos')) pos.line X.env = pure false := by rfl)
    (hf : X.fn x = true ∨ X.env.scope.names.lookup x = some .local := by first | exact .inl rfl | exact .inr rfl | assumption) : QSx1 X (.Assign [.Name x pos'] e pos) (fun W => sSet i (te W)) := fun H0 W tk =>
  imS (ps_set hN hi hx (he H0 W tk) hs hf) fun D σ H ⟨⟨z, M, d, rs, m, h, P⟩, k0⟩ => ⟨⟨z, M, _, rs, m, h, fun u M' h' v H' r m' k' => P.nx _ M' h' _ H' ((rs.keep k'.tk).set r) m' k'⟩, k0⟩
theorem qsx_if {c : Expr} {tc : TT'} (hc : QT X c tc) (ha : QSx X a t) (hb : QSx X b u) : QSx1 X (.If c a b pos) (fun W => sIf tc (t W) (u W)) := fun H0 W tk =>
  imS (ps_if hc (ha H0 W tk) (hb H0 W tk)) fun D σ H ⟨⟨z, M, d, rs, m, h, P⟩, k0⟩ =>
  ⟨z, M, _, rs, m, h, fun b M' h' H' m' k' => by
    cases b with
    | true => exact iteT ⟨⟨z, M', d, rs.keep k'.tk, m', h', P.step k'⟩, k0.trans k'.tk⟩
    | false => exact iteF ⟨⟨z, M', d, rs.keep k'.tk, m', h', P.step k'⟩, k0.trans k'.tk⟩⟩
end
/-! ### try: body, except C as n: suite -/
def sTry (K : Frag) (cE : Value) (i : Nat) (tb : WX' → TS') (ts : TS') (Wout : WX') : TS' := fun d z M => tb (fun C fs z' M' => ∃ b, PySem.W.exmOne K (.ref C) cE = some b ∧
  (b = true → ∀ a, M' a = none → ts { nx := fun z2 M2 => d.nx (setS z2 i none) M2, rt := d.rt, bk := fun z2 M2 => d.bk (setS z2 i none) M2, ct := fun z2 M2 => d.ct (setS z2 i none) M2 } (setS z' i (some (.ref a))) (put M' a (.exc C fs))) ∧
  (b = false → Wout C fs z' M')) d z M
section
variable {X : Cx} {x n : Str} {cE : Value} {i : Nat} {body suite : List Stmt} {b₀ : Stmt} {np pos pos' : Pos} {tb : WX' → TS'} {ts : TS'} {Wout : WX'}
theorem suiteX {pins : List (Addr × Obj)} {σ : L2.St} {H : Hp} {s : Shared} {a : Addr} (I : Inv X pins σ H s) : Inv (X.suite a (X.pn ++ pins)) [] σ H s :=
  ⟨I.ok.suite _ _, I.os, I.bare, I.base, I.loc, I.cell, I.free, I.freeC, fun p hp => I.pin p (by rw [List.append_nil] at hp; exact hp), I.hok, I.len⟩
theorem unsuiteX {pins pn' : List (Addr × Obj)} {σ : L2.St} {H : Hp} {s : Shared} {a : Addr} (I : Inv (X.suite a (X.pn ++ pins)) pn' σ H s) (ok : X.Ok) : Inv X pins σ H s :=
  ⟨ok, I.os, I.bare, I.base, I.loc, I.cell, I.free, I.freeC, fun p hp => I.pin p (List.mem_append_left _ hp), I.hok, I.len⟩
theorem qs_try (hs : X.stack = X.env :: X.outer) (hf : X.env.frame = some X.env.locals) (hex : X.ex = []) (hN : X.N.Nodup) (hi : X.N[i]? = some n) (hln : X.env.kindOf n = some .local) (hc : Names X x cE) (tk : Takes X (lowW X.K Wout))
    (hb : ∀ (pn : List (Addr × Obj)) (xe : Value → Shared → Prop), PassesOwn (model X.prog X.w) X.A X.env xe → QSx (X.tr pn xe) body tb)
    (hsu : ∀ (a : Addr) (pn : List (Addr × Obj)), QSs (X.suite a pn) (b₀ :: suite) ts) :
    QS X (.Try body [.ExceptHandler (some (.Name x np)) (some n) (b₀ :: suite) pos'] [] [] pos) (sTry X.K cE i tb ts Wout) := by
  refine ⟨fun pins s σ H D I h => ?_⟩
  obtain ⟨z, M, d, rs, m, h, PD⟩ := h
  have ok := I.ok
  have hfr : X.A.frames = some (X.env :: X.outer) := by rw [ok.frames, hs]
  have hloc : Loc X.env.scope n := .inl hln
  refine wpAny_Try_except ?_
  refine wpAny_mono ((hb (X.pn ++ pins) (fun e s₁ => wpAny (model X.prog X.w) X.A (noteFrame e X.env) (fun _ s₂ => wpAny (model X.prog X.w) X.A (setFlight e none) (fun _ s₃ =>
    wpAny (model X.prog X.w) X.A (handleBy e X.env [.ExceptHandler (some (.Name x np)) (some n) (b₀ :: suite) pos']) (SP X pins D) X.xe s₃) X.xe s₂) X.xe s₁) PassesOwn.looking H _ (fun u s' xx => ?_)).run [] s σ H D (I.toTry _) ⟨⟨z, M, d, rs, m, h, PD⟩, .refl H⟩) (fun f s1 hsp => ?_) (fun e s1 he => he)
  · obtain ⟨a, B, sI, pins', σ', H', cls, dd, rfl, J', nb, up, sky, na, os, ag, ⟨C, fs, z', M', ⟨ecls, xr⟩, rs', m', b, hb1, hyes, hno⟩, k0⟩ := xx
    subst ecls
    have J : Inv X pins σ' H' sI := J'.ofTry ok
    have sky' : Sky B (X.env :: X.outer) a (Zc (.ref C) dd) X.env.locals s'.heap := by rw [← hs]; exact sky
    show wpAny (model X.prog X.w) X.A (noteFrame (.ref a) X.env) _ _ _
    refine Sky.land Zc.steady hfr hf sky' fun h3 fl3 up3 => ?_
    have J3 : Inv X pins σ' H' { s' with heap := h3 } := J.landed nb fl3.1 (up.trans up3) os ag
    obtain ⟨oe3, vs3, he3, hz3, hd3⟩ := fl3.there
    have notFr : ∀ {h : Heap} {o : Obj} {vs : Array Value}, h.FunFrames B (X.env :: X.outer) → h.get? a = some o → o.data = .fields vs → a ∉ frs (X.env :: X.outer) := fun {h o vs} ff e dd hm => by
      obtain ⟨_, o', e', hnf⟩ := ff.mem hm
      rw [e] at e'; cases e'
      exact hnf _ dd
    have nfr := notFr fl3.2.2.1 he3 hd3
    have nL : a ≠ X.env.locals := fun z => nfr (List.mem_filterMap.mpr ⟨X.env, List.mem_cons_self, by rw [hf, z]⟩)
    -- the exception is new
    have nsI : sI.heap.get? a = none := by
      cases e : sI.heap.get? a with
      | none => rfl
      | some o =>
        have := nb a o e (by rw [hs]; exact nfr)
        rw [fl3.2.1] at this
        cases this
    have n0 : X.s_0.heap.get? a = none := by
      cases e : X.s_0.heap.get? a with
      | none => rfl
      | some o =>
        obtain ⟨o', e'⟩ := J.base.there a o e (by rw [hex]; exact fun z => nomatch z)
        rw [nsI] at e'
        cases e'
    have nc : ∀ y c, X.env.cells.lookup y = some c → c ≠ a := fun y c e z => by
      obtain ⟨v, o, ho, _⟩ := J.cell y c e
      rw [z, nsI] at ho
      cases ho
    have np2 : ∀ p ∈ X.pn ++ pins, p.1 ≠ a := fun p hp z => by
      have := (J.pin p hp).1
      rw [z, nsI] at this
      cases this
    have LT : PySem.W.Looks (model X.prog X.w) h3 (typeOf (.ref a)) (.ref C) := fun A Q E s k q => wpAny_typeOf_ref (k _ _ he3) (by rw [hz3.1]; exact q)
    have LM := PySem.W.exm_one (M := model X.prog X.w) (J3.kIn) LT hb1
    refine wpAny_handleBy_cons (codeAny_handlers_test ?_) (by intro q; cases q)
    have test : ∀ {Q : Value → Shared → Prop} {E : Value → Shared → Prop}, Q cE { s' with heap := h3 } → wpAny (model X.prog X.w) (X.A.mark (some (.ref a))) (eval (.Name x np) X.env) Q E { s' with heap := h3 } := fun {Q E} q => by
      obtain ⟨hg, hdbg, hm | ⟨hm, hv, hnn⟩⟩ := hc
      · exact ld_glob (X := X.suite a (X.pn ++ pins)) (suiteX J3) hg hm q hdbg
      · exact ld_blt (X := X.suite a (X.pn ++ pins)) (suiteX J3) hg hm hv q hnn hdbg
    refine test (LM.here ?_)
    cases b with
    | true =>
      refine codeAny_handlers_suite_as ?_
      refine HandSPX.lands_againZ fl3 fun h4 fl4 up4 => ?_
      have J4 : Inv X pins σ' H' { s' with heap := h4 } := J.landed nb fl4.1 ((up.trans up3).trans up4) os ag
      obtain ⟨oe4, vs4, he4, hz4, hd4⟩ := fl4.there
      -- what is known from now on
      obtain ⟨H5, J5, k5, nH5, x5⟩ : ∃ H5, Inv X pins σ' H5 { s' with heap := h4 } ∧ TK H' H5 ∧ H5 a = none ∧ RM X.K H5 M' ∧ ((fs = [] ∧ oe4.dict = none) ∨ ∃ dd od l, oe4.dict = some dd ∧ H5 dd = some (.frz od (.xd l)) ∧ fs.map (·.1) = l.map (·.1) ∧ RepL X.K H5 (fs.map (·.2)) (l.map (·.2))) := by
        rcases xr with ⟨e1, e2⟩ | ⟨d1, l, e1, e2, e3, e4⟩
        · exact ⟨H', J4, .refl _, na, m', .inl ⟨e1, by rw [hz4.2, e2]⟩⟩
        · obtain ⟨od, J5⟩ := Inv.lockX J4 e2
          have tk5 : TK H' (upd H' d1 (.frz od (.xd l))) := .wr e2 (fun xs z => nomatch z) fun o x z => nomatch z
          have nd : a ≠ d1 := fun z => by rw [← z, na] at e2; cases e2
          refine ⟨_, J5, tk5, by rw [upd_ne nd]; exact na, fun b o e => ?_, .inr ⟨d1, od, l, by rw [hz4.2, e1], upd_same, e3, e4.keep tk5⟩⟩
          have h1 := m' b o e
          refine RO.keep tk5 h1 (fun u hu => ?_) fun c hc => by rw [upd_ne (fun z => by rw [z, e2] at hc; cases hc)]; exact hc
          by_cases hb : b = d1
          · subst hb
            rw [e2] at hu
            exfalso
            cases o with
            | lst xs => obtain ⟨_, h1, _⟩ := h1; rw [e2] at h1; cases h1
            | dic tk lk kvs =>
              cases tk
              all_goals
                obtain ⟨l', h1, _⟩ := h1
                unfold RdL at h1
                cases lk
                · rw [if_neg Bool.false_ne_true, e2] at h1; cases h1
                · rw [if_pos rfl] at h1; obtain ⟨o, h1⟩ := h1; rw [e2] at h1; cases h1
            | ins C fs => obtain ⟨_, _, h1, _⟩ := h1; rw [e2] at h1; cases h1
            | exc C fs => obtain ⟨_, h1, _⟩ := h1; rw [e2] at h1; cases h1
          · rw [upd_ne hb]; exact hu
      have J6 := Inv.adopt J5 he4 nH5 n0 nL nc np2
      have tk6 : TK H' (upd H5 a (xcT a oe4)) := k5.trans (.new nH5)
      have m6 : RM X.K (upd H5 a (xcT a oe4)) (put M' a (.exc C fs)) := x5.1.new (mo := .exc C fs) nH5 (by
        refine ⟨oe4, upd_same, hz4.1, ⟨_, hd4⟩, ?_⟩
        rcases x5.2 with q | ⟨dd, od, l, e1, e2, e3, r⟩
        · exact .inl q
        · exact .inr ⟨dd, od, l, e1, by rw [upd_ne (fun z => by rw [z, nH5] at e2; cases e2)]; exact e2, e3, r.keep (.new nH5)⟩)
      refine store_ok (X := X.suite a (X.pn ++ pins)) (v := .ref a) (suiteX J6) hN hi hloc rfl (fun s5 S5 => ?_) (.inr hln)
      have PD6 : SK H M (upd H5 a (xcT a oe4)) (put M' a (.exc C fs)) := ⟨k0.trans tk6⟩
      refine wpAny_mono ((hsu a (X.pn ++ pins)).run [] s5 _ _ { nx := fun σ' H' => D.nx (σ'.set i none) H', rt := D.rt, bk := fun σ' H' => D.bk (σ'.set i none) H', ct := fun σ' H' => D.ct (σ'.set i none) H' } S5
        ⟨setS z' i (some (.ref a)), _, _, (rs'.keep tk6).set .r, m6, hyes rfl a (m'.fresh na), ?_⟩) (fun f s6 hsp => ?_) (fun _ _ z => False.elim z)
      · have pd := PD.step PD6
        exact ⟨fun z2 M2 q2 σ2 H2 rs2 m2 k2 => pd.nx _ M2 q2 _ H2 rs2.clr m2 k2, pd.rt, fun z2 M2 q2 σ2 H2 rs2 m2 k2 => pd.bk _ M2 q2 _ H2 rs2.clr m2 k2, fun z2 M2 q2 σ2 H2 rs2 m2 k2 => pd.ct _ M2 q2 _ H2 rs2.clr m2 k2⟩
      have end_ : ∀ {σ6 : L2.St} {H6 : Hp} {Q : Shared → Prop}, Inv (X.suite a (X.pn ++ pins)) [] σ6 H6 s6 → (∀ s7, Inv X pins (σ6.set i none) H6 s7 → Q s7) →
          wpAny (model X.prog X.w) X.A (do bindName X.env n .none; unbindBehindTheSuite X.env n pos') (fun _ s7 => Q s7) X.xe s6 := fun {σ6 H6 Q} S6 hq => gone_ok (unsuiteX S6 ok) hN hi hln hq
      cases f with
      | next =>
        obtain ⟨σ6, H6, S6, q6⟩ := hsp
        exact end_ S6 fun s7 J7 => ⟨_, _, J7, q6⟩
      | brk =>
        obtain ⟨σ6, H6, S6, q6⟩ := hsp
        exact end_ S6 fun s7 J7 => ⟨_, _, J7, q6⟩
      | cont =>
        obtain ⟨σ6, H6, S6, q6⟩ := hsp
        exact end_ S6 fun s7 J7 => ⟨_, _, J7, q6⟩
      | ret u =>
        obtain ⟨v6, σ6, H6, S6, r6, q6⟩ := hsp
        exact end_ S6 fun s7 J7 => ⟨_, _, _, J7, r6, q6⟩
    | false =>
      show wpAny _ X.A (handleBy (.ref a) X.env []) _ _ _
      refine wpAny_handleBy_nil ?_
      obtain ⟨k1, k2, k3, oe, vs, T, oT, ts', he, hz, hd, h1, hr⟩ := id fl3
      unfold PySem.passOn
      refine wpAny_bind (wpAny_field he hd h1 ?_)
      rw [if_neg (show ¬ ((Value.ref T == Value.none) = true) from by simp)]
      have fin : wpAny (model X.prog X.w) X.A (setFlight (.ref a) X.env.frame) (fun _ s4 => wpAny (model X.prog X.w) X.A (throw (.ref a) : Sem Flow) (SP X pins D) X.xe s4) X.xe { s' with heap := h3 } := by
        rw [hf]
        refine HandSPX.setFlight_upZ fl3 fun h4 hh4 up4 => wpAny_throw (tk _ _ ?_)
        exact ⟨a, B, sI, pins, σ', H', .ref C, dd, rfl, J, nb, (up.trans up3).trans up4, .inr (.inr (by rw [hs]; exact hh4)), na, os, ag, C, fs, z', M', ⟨rfl, xr⟩, rs', m', hno rfl⟩
      first
        | exact wpAny_bind (wpAny_pure (wpAny_bind fin))
        | exact wpAny_bind fin
  · cases f with
    | next =>
      obtain ⟨σ', H', J', q⟩ := hsp
      exact wpAny_execs_nil ⟨σ', H', J'.ofTry ok, q⟩
    | brk =>
      obtain ⟨σ', H', J', q⟩ := hsp
      exact ⟨σ', H', J'.ofTry ok, q⟩
    | cont =>
      obtain ⟨σ', H', J', q⟩ := hsp
      exact ⟨σ', H', J'.ofTry ok, q⟩
    | ret u =>
      obtain ⟨v, σ', H', J', r, q⟩ := hsp
      exact ⟨v, σ', H', J'.ofTry ok, r, q⟩
end
end L3
namespace L3
open PySem
/-- what a def lets out -/
def wX (e : XK') : WX' := fun C fs _ M' => e C fs M'
theorem bb_ValueError : bootBuiltins "ValueError" = some (.type "ValueError") := by decide +kernel
end L3

set_option Elab.async false
set_option linter.all false
set_option maxRecDepth 100000
set_option maxHeartbeats 0
namespace Cw
open PySem PySem.Spec L2 L3
open PyProof.Rows hiding St
open He (Dv)

def top (i : Nat) : Stmt := PySem.Challenge.pw_cutstree_k70_no_lines.main.body.getD i (.Pass ⟨0, 0, 0, 0⟩)
abbrev s_NoTie_init : Stmt := (inClass (top 3) 0)
abbrev n_NoTie_init : List Str := ["self", "at"]
theorem sc_NoTie_init : FnScope n_NoTie_init ["self", "at"] (defScope s_NoTie_init) := ⟨rfl, rfl, rfl, by decide +kernel, rfl, by decide +kernel, by decide +kernel⟩
abbrev s_NoLine_init : Stmt := (inClass (top 4) 0)
abbrev n_NoLine_init : List Str := ["self", "at"]
theorem sc_NoLine_init : FnScope n_NoLine_init ["self", "at"] (defScope s_NoLine_init) := ⟨rfl, rfl, rfl, by decide +kernel, rfl, by decide +kernel, by decide +kernel⟩
abbrev s_is_whole : Stmt := (top 9)
abbrev n_is_whole : List Str := ["thing", "least", "most"]
theorem sc_is_whole : FnScope n_is_whole ["thing", "least", "most"] (defScope s_is_whole) := ⟨rfl, rfl, rfl, by decide +kernel, rfl, by decide +kernel, by decide +kernel⟩
abbrev s_is_row : Stmt := (top 10)
abbrev n_is_row : List Str := ["thing"]
theorem sc_is_row : FnScope n_is_row ["thing"] (defScope s_is_row) := ⟨rfl, rfl, rfl, by decide +kernel, rfl, by decide +kernel, by decide +kernel⟩
abbrev s_as_tuples : Stmt := (top 11)
abbrev n_as_tuples : List Str := ["thing", "part"]
theorem sc_as_tuples : FnScope n_as_tuples ["thing"] (defScope s_as_tuples) := ⟨rfl, rfl, rfl, by decide +kernel, rfl, by decide +kernel, by decide +kernel⟩
abbrev s_divisor : Stmt := (top 12)
abbrev n_divisor : List Str := ["one", "other"]
theorem sc_divisor : FnScope n_divisor ["one", "other"] (defScope s_divisor) := ⟨rfl, rfl, rfl, by decide +kernel, rfl, by decide +kernel, by decide +kernel⟩
abbrev s_is_amount : Stmt := (top 13)
abbrev n_is_amount : List Str := ["thing", "number"]
theorem sc_is_amount : FnScope n_is_amount ["thing"] (defScope s_is_amount) := ⟨rfl, rfl, rfl, by decide +kernel, rfl, by decide +kernel, by decide +kernel⟩
abbrev s_is_weight : Stmt := (top 14)
abbrev n_is_weight : List Str := ["thing"]
theorem sc_is_weight : FnScope n_is_weight ["thing"] (defScope s_is_weight) := ⟨rfl, rfl, rfl, by decide +kernel, rfl, by decide +kernel, by decide +kernel⟩
abbrev s_Web_init : Stmt := (inClass (top 17) 0)
abbrev n_Web_init : List Str := ["self", "many", "ties", "at"]
theorem sc_Web_init : FnScope n_Web_init ["self", "many", "ties"] (defScope s_Web_init) := ⟨rfl, rfl, rfl, by decide +kernel, rfl, by decide +kernel, by decide +kernel⟩
abbrev s_Web_tie : Stmt := (inClass (top 17) 1)
abbrev n_Web_tie : List Str := ["self", "i", "j"]
theorem sc_Web_tie : FnScope n_Web_tie ["self", "i", "j"] (defScope s_Web_tie) := ⟨rfl, rfl, rfl, by decide +kernel, rfl, by decide +kernel, by decide +kernel⟩
abbrev s_are_places : Stmt := (top 18)
abbrev n_are_places : List Str := ["many", "i", "j"]
theorem sc_are_places : FnScope n_are_places ["many", "i", "j"] (defScope s_are_places) := ⟨rfl, rfl, rfl, by decide +kernel, rfl, by decide +kernel, by decide +kernel⟩
abbrev s_is_tie : Stmt := (top 19)
abbrev n_is_tie : List Str := ["many", "thing"]
theorem sc_is_tie : FnScope n_is_tie ["many", "thing"] (defScope s_is_tie) := ⟨rfl, rfl, rfl, by decide +kernel, rfl, by decide +kernel, by decide +kernel⟩
abbrev s_wrong_tie : Stmt := (top 20)
abbrev n_wrong_tie : List Str := ["many", "ties", "known", "at", "thing"]
theorem sc_wrong_tie : FnScope n_wrong_tie ["many", "ties"] (defScope s_wrong_tie) := ⟨rfl, rfl, rfl, by decide +kernel, rfl, by decide +kernel, by decide +kernel⟩
abbrev s_weights_in : Stmt := (top 21)
abbrev n_weights_in : List Str := ["ties", "i", "j", "weight"]
theorem sc_weights_in : FnScope n_weights_in ["ties"] (defScope s_weights_in) := ⟨rfl, rfl, rfl, by decide +kernel, rfl, by decide +kernel, by decide +kernel⟩
abbrev s_put_weights : Stmt := (top 22)
abbrev n_put_weights : List Str := ["web", "weights", "told", "places", "weight"]
theorem sc_put_weights : FnScope n_put_weights ["web", "weights"] (defScope s_put_weights) := ⟨rfl, rfl, rfl, by decide +kernel, rfl, by decide +kernel, by decide +kernel⟩
abbrev s_number_in : Stmt := (top 27)
abbrev n_number_in : List Str := ["word", "most", "sign"]
theorem sc_number_in : FnScope n_number_in ["word", "most"] (defScope s_number_in) := ⟨rfl, rfl, rfl, by decide +kernel, rfl, by decide +kernel, by decide +kernel⟩
abbrev s_amount_in : Stmt := (top 28)
abbrev n_amount_in : List Str := ["word", "parts", "numbers", "part", "above", "below"]
theorem sc_amount_in : FnScope n_amount_in ["word"] (defScope s_amount_in) := ⟨rfl, rfl, rfl, by decide +kernel, rfl, by decide +kernel, by decide +kernel⟩
abbrev s_lines_in : Stmt := (top 29)
abbrev n_lines_in : List Str := ["text", "found", "at", "line", "words", "word"]
theorem sc_lines_in : FnScope n_lines_in ["text"] (defScope s_lines_in) := ⟨rfl, rfl, rfl, by decide +kernel, rfl, by decide +kernel, by decide +kernel⟩
abbrev s_row_in : Stmt := (top 31)
abbrev n_row_in : List Str := ["words", "word", "i", "j", "amount"]
theorem sc_row_in : FnScope n_row_in ["words", "word"] (defScope s_row_in) := ⟨rfl, rfl, rfl, by decide +kernel, rfl, by decide +kernel, by decide +kernel⟩
abbrev s_many_in : Stmt := (top 32)
abbrev n_many_in : List Str := ["words", "many"]
theorem sc_many_in : FnScope n_many_in ["words"] (defScope s_many_in) := ⟨rfl, rfl, rfl, by decide +kernel, rfl, by decide +kernel, by decide +kernel⟩
abbrev s_read_web : Stmt := (top 33)
abbrev n_read_web : List Str := ["text", "lines", "many", "ties", "known", "at", "words", "row"]
theorem sc_read_web : FnScope n_read_web ["text"] (defScope s_read_web) := ⟨rfl, rfl, rfl, by decide +kernel, rfl, by decide +kernel, by decide +kernel⟩
abbrev s_rows_in : Stmt := (top 34)
abbrev n_rows_in : List Str := ["text", "word", "found", "at", "words", "row"]
theorem sc_rows_in : FnScope n_rows_in ["text", "word"] (defScope s_rows_in) := ⟨rfl, rfl, rfl, by decide +kernel, rfl, by decide +kernel, by decide +kernel⟩
abbrev s_read_tree : Stmt := (top 35)
abbrev n_read_tree : List Str := ["text"]
theorem sc_read_tree : FnScope n_read_tree ["text"] (defScope s_read_tree) := ⟨rfl, rfl, rfl, by decide +kernel, rfl, by decide +kernel, by decide +kernel⟩
abbrev s_read_flow : Stmt := (top 36)
abbrev n_read_flow : List Str := ["text"]
theorem sc_read_flow : FnScope n_read_flow ["text"] (defScope s_read_flow) := ⟨rfl, rfl, rfl, by decide +kernel, rfl, by decide +kernel, by decide +kernel⟩
abbrev s_read_sides : Stmt := (top 37)
abbrev n_read_sides : List Str := ["text", "found", "at", "words", "places", "word"]
theorem sc_read_sides : FnScope n_read_sides ["text"] (defScope s_read_sides) := ⟨rfl, rfl, rfl, by decide +kernel, rfl, by decide +kernel, by decide +kernel⟩
abbrev s__law_deck : Stmt := (top 39)
abbrev n__law_deck : List Str := ["_law_script", "_law_many", "_law_row", "_law_odd", "_law_deck_here", "_law_k", "_law_at", "_law_one"]
theorem sc__law_deck : FnScope n__law_deck ["_law_script", "_law_many"] (defScope s__law_deck) := ⟨rfl, rfl, rfl, by decide +kernel, rfl, by decide +kernel, by decide +kernel⟩
abbrev s__law_lowest : Stmt := (top 40)
abbrev n__law_lowest : List Str := ["_law_above", "_law_below", "_law_one", "_law_other"]
theorem sc__law_lowest : FnScope n__law_lowest ["_law_above", "_law_below"] (defScope s__law_lowest) := ⟨rfl, rfl, rfl, by decide +kernel, rfl, by decide +kernel, by decide +kernel⟩
abbrev s__law_number : Stmt := (top 41)
abbrev n__law_number : List Str := ["_law_amount"]
theorem sc__law_number : FnScope n__law_number ["_law_amount"] (defScope s__law_number) := ⟨rfl, rfl, rfl, by decide +kernel, rfl, by decide +kernel, by decide +kernel⟩
abbrev s__law_any : Stmt := (top 42)
abbrev n__law_any : List Str := ["_law_deck_here", "_law_draw", "_law_more", "_law_top", "_law_low"]
theorem sc__law_any : FnScope n__law_any ["_law_deck_here"] (defScope s__law_any) := ⟨rfl, rfl, rfl, by decide +kernel, rfl, by decide +kernel, by decide +kernel⟩
abbrev s__law_drawn : Stmt := (top 43)
abbrev n__law_drawn : List Str := ["_law_deck_here", "_law_many", "_law_found", "_law_k", "_law_draw"]
theorem sc__law_drawn : FnScope n__law_drawn ["_law_deck_here", "_law_many"] (defScope s__law_drawn) := ⟨rfl, rfl, rfl, by decide +kernel, rfl, by decide +kernel, by decide +kernel⟩
abbrev s__law_places : Stmt := (top 44)
abbrev n__law_places : List Str := ["_law_deck_here", "_law_many", "_law_found", "_law_k", "_law_draw", "_law_at"]
theorem sc__law_places : FnScope n__law_places ["_law_deck_here", "_law_many"] (defScope s__law_places) := ⟨rfl, rfl, rfl, by decide +kernel, rfl, by decide +kernel, by decide +kernel⟩
abbrev s__law_ties : Stmt := (top 45)
abbrev n__law_ties : List Str := ["_law_deck_here", "_law_many", "_law_found", "_law_turn", "_law_draw", "_law_i", "_law_j", "_law_some", "_law_pair"]
theorem sc__law_ties : FnScope n__law_ties ["_law_deck_here", "_law_many"] (defScope s__law_ties) := ⟨rfl, rfl, rfl, by decide +kernel, rfl, by decide +kernel, by decide +kernel⟩
abbrev s__law_line : Stmt := (top 46)
abbrev n__law_line : List Str := ["_law_word", "_law_row"]
theorem sc__law_line : FnScope n__law_line ["_law_word", "_law_row"] (defScope s__law_line) := ⟨rfl, rfl, rfl, by decide +kernel, rfl, by decide +kernel, by decide +kernel⟩
abbrev s__law_caught : Stmt := (top 47)
abbrev n__law_caught : List Str := ["_law_which", "_law_text", "_law_deeds", "_law_caught_here", "error"]
theorem sc__law_caught : FnScope n__law_caught ["_law_which", "_law_text"] (defScope s__law_caught) := ⟨rfl, rfl, rfl, by decide +kernel, rfl, by decide +kernel, by decide +kernel⟩
abbrev s__law_wrong : Stmt := (top 48)
abbrev n__law_wrong : List Str := ["_law_word", "_law_great", "_law_rest", "_law_more"]
theorem sc__law_wrong : FnScope n__law_wrong ["_law_word"] (defScope s__law_wrong) := ⟨rfl, rfl, rfl, by decide +kernel, rfl, by decide +kernel, by decide +kernel⟩
abbrev s__law_put : Stmt := (top 49)
abbrev n__law_put : List Str := ["_law_deck_here", "_law_lines", "_law_wrong_here", "_law_first", "_law_at", "_law_draw", "_law_head", "_law_more"]
theorem sc__law_put : FnScope n__law_put ["_law_deck_here", "_law_lines", "_law_wrong_here", "_law_first"] (defScope s__law_put) := ⟨rfl, rfl, rfl, by decide +kernel, rfl, by decide +kernel, by decide +kernel⟩
abbrev s__law_webs : Stmt := (top 50)
abbrev n__law_webs : List Str := ["_law_deck_here", "_law_many", "_law_ties_here", "_law_lines", "_law_row", "_law_over", "_law_wrong_here", "_law_one", "_law_text", "_law_at", "_law_twice", "_law_line_here", "_law_firsts"]
theorem sc__law_webs : FnScope n__law_webs ["_law_deck_here"] (defScope s__law_webs) := ⟨rfl, rfl, rfl, by decide +kernel, rfl, by decide +kernel, by decide +kernel⟩
abbrev s_law : Stmt := (top 51)
abbrev n_law : List Str := ["_law_script", "_law_deck_here", "_law_rows", "_law_sides", "_law_which", "_law_word", "_law_lines", "_law_one", "_law_row", "_law_text", "_law_at", "_law_side", "_law_place", "_law_wrong_here"]
theorem sc_law : FnScope n_law ["_law_script"] (defScope s_law) := ⟨rfl, rfl, rfl, by decide +kernel, rfl, by decide +kernel, by decide +kernel⟩
def d_NoTie_init : He.DefD := ⟨("NoTie", some "__init__"), "__init__", "NoTie.__init__", defArgs s_NoTie_init, defBody s_NoTie_init, defScope s_NoTie_init, [], []⟩
def d_NoLine_init : He.DefD := ⟨("NoLine", some "__init__"), "__init__", "NoLine.__init__", defArgs s_NoLine_init, defBody s_NoLine_init, defScope s_NoLine_init, [], []⟩
def d_is_whole : He.DefD := ⟨("is_whole", none), "is_whole", "is_whole", defArgs s_is_whole, defBody s_is_whole, defScope s_is_whole, [], []⟩
def d_is_row : He.DefD := ⟨("is_row", none), "is_row", "is_row", defArgs s_is_row, defBody s_is_row, defScope s_is_row, [], []⟩
def d_as_tuples : He.DefD := ⟨("as_tuples", none), "as_tuples", "as_tuples", defArgs s_as_tuples, defBody s_as_tuples, defScope s_as_tuples, [], []⟩
def d_divisor : He.DefD := ⟨("divisor", none), "divisor", "divisor", defArgs s_divisor, defBody s_divisor, defScope s_divisor, [], []⟩
def d_is_amount : He.DefD := ⟨("is_amount", none), "is_amount", "is_amount", defArgs s_is_amount, defBody s_is_amount, defScope s_is_amount, [], []⟩
def d_is_weight : He.DefD := ⟨("is_weight", none), "is_weight", "is_weight", defArgs s_is_weight, defBody s_is_weight, defScope s_is_weight, [], []⟩
def d_Web_init : He.DefD := ⟨("Web", some "__init__"), "__init__", "Web.__init__", defArgs s_Web_init, defBody s_Web_init, defScope s_Web_init, [], []⟩
def d_Web_tie : He.DefD := ⟨("Web", some "tie"), "tie", "Web.tie", defArgs s_Web_tie, defBody s_Web_tie, defScope s_Web_tie, [], []⟩
def d_are_places : He.DefD := ⟨("are_places", none), "are_places", "are_places", defArgs s_are_places, defBody s_are_places, defScope s_are_places, [], []⟩
def d_is_tie : He.DefD := ⟨("is_tie", none), "is_tie", "is_tie", defArgs s_is_tie, defBody s_is_tie, defScope s_is_tie, [], []⟩
def d_wrong_tie : He.DefD := ⟨("wrong_tie", none), "wrong_tie", "wrong_tie", defArgs s_wrong_tie, defBody s_wrong_tie, defScope s_wrong_tie, [], []⟩
def d_weights_in : He.DefD := ⟨("weights_in", none), "weights_in", "weights_in", defArgs s_weights_in, defBody s_weights_in, defScope s_weights_in, [], []⟩
def d_put_weights : He.DefD := ⟨("put_weights", none), "put_weights", "put_weights", defArgs s_put_weights, defBody s_put_weights, defScope s_put_weights, [], []⟩
def d_number_in : He.DefD := ⟨("number_in", none), "number_in", "number_in", defArgs s_number_in, defBody s_number_in, defScope s_number_in, [], []⟩
def d_amount_in : He.DefD := ⟨("amount_in", none), "amount_in", "amount_in", defArgs s_amount_in, defBody s_amount_in, defScope s_amount_in, [], []⟩
def d_lines_in : He.DefD := ⟨("lines_in", none), "lines_in", "lines_in", defArgs s_lines_in, defBody s_lines_in, defScope s_lines_in, [], []⟩
def d_row_in : He.DefD := ⟨("row_in", none), "row_in", "row_in", defArgs s_row_in, defBody s_row_in, defScope s_row_in, [], []⟩
def d_many_in : He.DefD := ⟨("many_in", none), "many_in", "many_in", defArgs s_many_in, defBody s_many_in, defScope s_many_in, [], []⟩
def d_read_web : He.DefD := ⟨("read_web", none), "read_web", "read_web", defArgs s_read_web, defBody s_read_web, defScope s_read_web, [], []⟩
def d_rows_in : He.DefD := ⟨("rows_in", none), "rows_in", "rows_in", defArgs s_rows_in, defBody s_rows_in, defScope s_rows_in, [], []⟩
def d_read_tree : He.DefD := ⟨("read_tree", none), "read_tree", "read_tree", defArgs s_read_tree, defBody s_read_tree, defScope s_read_tree, [], []⟩
def d_read_flow : He.DefD := ⟨("read_flow", none), "read_flow", "read_flow", defArgs s_read_flow, defBody s_read_flow, defScope s_read_flow, [], []⟩
def d_read_sides : He.DefD := ⟨("read_sides", none), "read_sides", "read_sides", defArgs s_read_sides, defBody s_read_sides, defScope s_read_sides, [], []⟩
def d__law_deck : He.DefD := ⟨("_law_deck", none), "_law_deck", "_law_deck", defArgs s__law_deck, defBody s__law_deck, defScope s__law_deck, [], []⟩
def d__law_lowest : He.DefD := ⟨("_law_lowest", none), "_law_lowest", "_law_lowest", defArgs s__law_lowest, defBody s__law_lowest, defScope s__law_lowest, [], []⟩
def d__law_number : He.DefD := ⟨("_law_number", none), "_law_number", "_law_number", defArgs s__law_number, defBody s__law_number, defScope s__law_number, [], []⟩
def d__law_any : He.DefD := ⟨("_law_any", none), "_law_any", "_law_any", defArgs s__law_any, defBody s__law_any, defScope s__law_any, [], []⟩
def d__law_drawn : He.DefD := ⟨("_law_drawn", none), "_law_drawn", "_law_drawn", defArgs s__law_drawn, defBody s__law_drawn, defScope s__law_drawn, [], []⟩
def d__law_places : He.DefD := ⟨("_law_places", none), "_law_places", "_law_places", defArgs s__law_places, defBody s__law_places, defScope s__law_places, [], []⟩
def d__law_ties : He.DefD := ⟨("_law_ties", none), "_law_ties", "_law_ties", defArgs s__law_ties, defBody s__law_ties, defScope s__law_ties, [], []⟩
def d__law_line : He.DefD := ⟨("_law_line", none), "_law_line", "_law_line", defArgs s__law_line, defBody s__law_line, defScope s__law_line, [], []⟩
def d__law_caught : He.DefD := ⟨("_law_caught", none), "_law_caught", "_law_caught", defArgs s__law_caught, defBody s__law_caught, defScope s__law_caught, [], []⟩
def d__law_wrong : He.DefD := ⟨("_law_wrong", none), "_law_wrong", "_law_wrong", defArgs s__law_wrong, defBody s__law_wrong, defScope s__law_wrong, [], []⟩
def d__law_put : He.DefD := ⟨("_law_put", none), "_law_put", "_law_put", defArgs s__law_put, defBody s__law_put, defScope s__law_put, [], []⟩
def d__law_webs : He.DefD := ⟨("_law_webs", none), "_law_webs", "_law_webs", defArgs s__law_webs, defBody s__law_webs, defScope s__law_webs, [], []⟩
def d_law : He.DefD := ⟨("law", none), "law", "law", defArgs s_law, defBody s_law, defScope s_law, [], []⟩
def fn : List He.DefD := d_NoTie_init :: d_NoLine_init :: d_is_whole :: d_is_row :: d_as_tuples :: d_divisor :: d_is_amount :: d_is_weight :: d_Web_init :: d_Web_tie :: d_are_places :: d_is_tie :: d_wrong_tie :: d_weights_in :: d_put_weights :: d_number_in :: d_amount_in :: d_lines_in :: d_row_in :: d_many_in :: 
    [d_read_web, d_rows_in, d_read_tree, d_read_flow, d_read_sides, d__law_deck, d__law_lowest, d__law_number, d__law_any, d__law_drawn, d__law_places, d__law_ties, d__law_line, d__law_caught, d__law_wrong, d__law_put, d__law_webs, d_law]
def fa : List He.Fa := .glo "is_whole" :: .glo "is_row" :: .glo "as_tuples" :: .glo "divisor" :: .glo "is_amount" :: .glo "is_weight" :: .glo "are_places" :: .glo "is_tie" :: .glo "wrong_tie" :: .glo "weights_in" :: .glo "put_weights" :: .glo "number_in" :: .glo "amount_in" :: .glo "lines_in" :: .glo "row_in" :: .glo "many_in" :: .glo "read_web" :: .glo "rows_in" :: .glo "read_tree" :: .glo "read_flow" :: 
    .glo "read_sides" :: .glo "_law_deck" :: .glo "_law_lowest" :: .glo "_law_number" :: .glo "_law_any" :: .glo "_law_drawn" :: .glo "_law_places" :: .glo "_law_ties" :: .glo "_law_line" :: .glo "_law_caught" :: .glo "_law_wrong" :: .glo "_law_put" :: .glo "_law_webs" :: .glo "law" :: .free "ValueError" :: .free "isinstance" :: .free "tuple" :: .free "enumerate" :: .free "dict" :: .free "int" :: 
    .free "list" :: .free "range" :: .free "str" :: .free "len" :: .free "bool" :: .free "sorted" :: .free "min" :: .free "max" :: .int "MOST_ABOVE" 1000000000000 :: .int "BELOW" 55440 :: .glo "NOUGHT" :: .int "MOST_PLACES" 40 :: .str "FIGURES" "0123456789" :: .int "MOST_FIGURES" 30 :: .int "MOST_PLACE_FIGURES" 2 :: .glo "CutError" :: .glo "NoPlace" :: .glo "NoTie" :: .glo "NoLine" :: .glo "Web" :: 
    [.cls "Web", .noat "Web" "many", .noat "Web" "weights", .noat "Web" "ties", .mkr "Web", .meth "Web" "tie"]
def exB (K : Frag) : Bool := He.tupB K "NOUGHT" [.int 0, .int 1] && xcB K (He.ga K "NoLine") && decide (PySem.W.exmOne K (.ref (He.ga K "NoLine")) (.ref (He.ga K "CutError")) = some true) && decide (PySem.W.kitOne K (.ref (He.ga K "NoLine")) (.ref (He.ga K "NoLine")) = some true) && decide (PySem.W.kitOne K (.ref (He.ga K "NoLine")) (.type "ValueError") = some true) && decide (PySem.W.findIn K (.ref (He.ga K "NoLine")) "at" = some none) && xiB K "NoLine" "at"
abbrev R : PySem.W.OpenRow := PySem.W.OpenLaw.row PySem.Challenge.rw_cutstree_k70_no_lines
abbrev hk : PySem.W.Hook := He.hookX 5 fa fn [] [] exB
def ob (s : PySem.W.SharedT) : He.AlX := He.obsX 5 fa fn [] [] exB (HandSHeadRun.getT s)
theorem ob_eq (s : PySem.W.SharedT) : ob s = hk.obs s.abs := He.obsX_eq (HandSHeadRun.getT_eq s)
def loose : List Str := "__name__" :: "CutError" :: "NoPlace" :: "NoTie" :: "NoLine" :: "MOST_ABOVE" :: "BELOW" :: "NOUGHT" :: "is_whole" :: "is_row" :: "as_tuples" :: "divisor" :: "is_amount" :: "is_weight" :: "MOST_PLACES" :: "Web" :: "are_places" :: "is_tie" :: "wrong_tie" :: "weights_in" :: 
    "put_weights" :: "FIGURES" :: "MOST_FIGURES" :: "MOST_PLACE_FIGURES" :: "number_in" :: "amount_in" :: "lines_in" :: "row_in" :: "many_in" :: "read_web" :: "rows_in" :: "read_tree" :: "read_flow" :: "read_sides" :: "_law_deck" :: "_law_lowest" :: "_law_number" :: "_law_any" :: "_law_drawn" :: "_law_places" :: 
    ["_law_ties", "_law_line", "_law_caught", "_law_wrong", "_law_put", "_law_webs"]
theorem run (w : World) : HandSHeadRun.RunEq R (PySem.W.view R.prog [51]) hk ob 2500 loose w := by
  intro os
  kernel_rfl
structure Tx (K : Frag) (mg : Str → Option Value) : Prop where
  says : He.SaysD fa fn K
  glo : ∀ (i : Nat) {x : Str}, fa[i]? = some (.glo x) → mg x = some (.ref (He.ga K x))
  free : ∀ (i : Nat) {x : Str}, fa[i]? = some (.free x) → mg x = none
  int : ∀ (i : Nat) {x : Str} {n : Int}, fa[i]? = some (.int x n) → ∃ t, mg x = some (.int n t)
  str : ∀ (i : Nat) {x z : Str}, fa[i]? = some (.str x z) → ∃ t, mg x = some (.str z t)
  ex_NOUGHT : He.tupB K "NOUGHT" (([0, 1] : List Int).map He.Dv.int) = true
  xc_NoLine : (xcB K (He.ga K "NoLine")) = true
  exm_Cut : (decide (PySem.W.exmOne K (.ref (He.ga K "NoLine")) (.ref (He.ga K "CutError")) = some true)) = true
  is_NoLine : (decide (PySem.W.kitOne K (.ref (He.ga K "NoLine")) (.ref (He.ga K "NoLine")) = some true)) = true
  is_VE : (decide (PySem.W.kitOne K (.ref (He.ga K "NoLine")) (.type "ValueError") = some true)) = true
  no_at : (decide (PySem.W.findIn K (.ref (He.ga K "NoLine")) "at" = some none)) = true
  xi_NoLine : xiB K "NoLine" "at" = true
theorem Tx.cls {K mg} (T : Tx K mg) (i : Nat) {x : Str} (h : fa[i]? = some (.cls x)) : Cls K (He.ga K x) := He.cls_ok (T.says.fact i h)
theorem Tx.noat {K mg} (T : Tx K mg) (i : Nat) {x f : Str} (h : fa[i]? = some (.noat x f)) : NoAttr K (He.ga K x) f := He.noat_ok (T.says.fact i h)
theorem Tx.meth {K mg} (T : Tx K mg) (i : Nat) {x m : Str} (h : fa[i]? = some (.meth x m)) : Meth K (He.ga K x) m (He.ma K (He.ga K x) m) := He.meth_ok (T.says.fact i h)
theorem Tx.mkr {K mg} (T : Tx K mg) (i : Nat) {x : Str} (h : fa[i]? = some (.mkr x)) : Mk K (He.ga K x) (He.ma K (He.ga K x) "__init__") := He.mkr_ok (T.says.fact i h)
theorem tx_of {K : Frag} {mg : Str → Option Value} {w : World} {h : Heap} (X : K.In h) (G : h.Ns mainGlobals mg) (c : He.SaysX fa fn [] [] exB w h K) : Tx K mg := by
  have says := c.t.d
  have more := c.more
  unfold exB at more
  simp only [Bool.and_eq_true] at more
  exact ⟨says, fun i x h => He.glo_ok X G (says.fact i h), fun i x h => He.free_ok X G (says.fact i h), fun i x n h => He.int_ok X G (says.fact i h), fun i x z h => He.str_ok X G (says.fact i h), more.1.1.1.1.1.1, more.1.1.1.1.1.2, more.1.1.1.1.2, more.1.1.1.2, more.1.1.2, more.1.2, more.2⟩
theorem xi_NoLine {P : Program} {w : World} {K : Frag} {mg : Str → Option Value} {base : Heap} (T : Tx K mg) : XiC P w K mg base (He.ga K "NoLine") "at" := by
  obtain ⟨fd, F0⟩ := T.says.def_ 1 (d := d_NoLine_init) rfl
  have F : FunD K "__init__" "NoLine.__init__" (defArgs s_NoLine_init) (defBody s_NoLine_init) (defScope s_NoLine_init) [] [] (He.ma K (He.ga K "NoLine") "__init__") fd := F0
  have b : Binds K fd ["self", "at"] [] := F.bindsN fun _ _ _ _ _ _ us hl => match us, hl with | [_, _], _ => rfl
  exact xiC_of T.xi_NoLine (fnI (fun_of F) sc_NoLine_init fun cdv A outer s H E => pss_one (ps_ost (pv 0) (pv 1))) b
end Cw

set_option Elab.async false
set_option linter.all false
set_option maxRecDepth 100000
set_option maxHeartbeats 0
namespace Cw
open PySem PySem.Spec L2 L3
open PyProof.Rows hiding St
/-! ### the data -/
structure Row where
  i : Int
  j : Int
  a : Int
  b : Int
  deriving DecidableEq
/-- a row as it stands, of whatever lists and tuples -/
def isAm (u : U) (a b : Int) : Prop := seqF u = some [.int a, .int b]
def isR (u : U) (r : Row) : Prop := ∃ w, seqF u = some [.int r.i, .int r.j, w] ∧ isAm w r.a r.b
def rowU (r : Row) : U := .tup [.int r.i, .int r.j, .tup [.int r.a, .int r.b]]
theorem isR_rowU (r : Row) : isR (rowU r) r := ⟨_, rfl, rfl⟩
def isW (a b : Int) : Prop := 0 ≤ a ∧ 1 ≤ b ∧ Int.gcd a b = 1 ∧ a ≤ 1000000000000 ∧ 55440 % b = 0
instance (a b : Int) : Decidable (isW a b) := by unfold isW; infer_instance
def okTie (n : Int) (r : Row) : Prop := 0 ≤ r.i ∧ r.i < r.j ∧ r.j < n ∧ isW r.a r.b
def keyR (r : Row) : Int × Int := (r.i, r.j)
def keyT (r : Row) : U := .kt [.int r.i, .int r.j]
def amU (r : Row) : U := .tup [.int r.a, .int r.b]
def pairR (r : Row) : U × U := (keyT r, amU r)
/-- rows in order of their places -/
def leR (r s : Row) : Bool := decide (r.i < s.i ∨ (r.i = s.i ∧ r.j ≤ s.j))
def nz (r : Row) : Bool := decide (¬ (r.a = 0 ∧ r.b = 1))
def told (rs : List Row) : List Row := (rs.mergeSort leR).filter nz
def small (i : Int) : Prop := i.natAbs.log2 < 1920
def sT (i : Int) : Str := PySem.Str.ofString (toString i)
def amTxt (a b : Int) : Str := if b = 1 then sT a else sT a ++ "/" ++ sT b
def rowTxt (w : Str) (r : Row) : Str := w ++ " " ++ sT r.i ++ " " ++ sT r.j ++ " " ++ amTxt r.a r.b ++ "\n"
def smallR (r : Row) : Prop := small r.i ∧ small r.j ∧ small r.a ∧ small r.b
def j0 (xs : List Str) : Str := Txt.join "" xs
/-- a Web stands at x -/
def webF (n : Int) (p : Addr) (rs : List Row) : List (Str × U) := [("many", .int n), ("weights", .ref p), ("ties", .tup (rs.map rowU))]
def webAt (K : Frag) (M : Mp) (x : Addr) (n : Int) (rs : List Row) : Prop := ∃ p, M x = some (.ins (He.ga K "Web") (webF n p rs)) ∧ M p = some (.dic true false (rs.map pairR))
/-! ### promises: whole numbers, rows -/
def sp_is_whole (K : Frag) : Sp' := fun us M q _ => ∃ i a b : Int, us = [.int i, .int a, .int b] ∧ q (.bl (decide (a ≤ i ∧ i ≤ b))) M
def sp_is_row (K : Frag) : Sp' := fun us M q _ => ∃ u, us = [u] ∧ (((∃ i, u = .int i) ∧ q (.bl false) M) ∨ ((seqA M u).isSome = true ∧ q (.bl true) M))
/-- tuples all through -/
def asT : Nat → U → U
  | 0, u => u
  | n + 1, u => match seqF u with
    | some xs => .tup (xs.map (asT n))
    | none => u
def deep : Nat → U → Prop
  | 0, u => ∃ i, u = .int i
  | n + 1, u => (∃ i, u = .int i) ∨ ∃ xs, seqF u = some xs ∧ xs.length ≤ sizeLine ∧ ∀ x ∈ xs, deep n x
def sp_as_tuples (n : Nat) (K : Frag) : Sp' := fun us M q _ => ∃ u, us = [u] ∧ deep n u ∧ q (asT n u) M
def sp_divisor (K : Frag) : Sp' := fun us M q _ => ∃ a b : Int, us = [.int a, .int b] ∧ 0 ≤ a ∧ 0 ≤ b ∧ q (.int (Int.gcd a b : Nat)) M
def sp_is_amount (K : Frag) : Sp' := fun us M q _ => ∃ u a b, us = [u] ∧ isAm u a b ∧ q (.bl (decide (0 ≤ a ∧ 1 ≤ b ∧ Int.gcd a b = 1))) M
def sp_is_weight (K : Frag) : Sp' := fun us M q _ => ∃ u a b, us = [u] ∧ isAm u a b ∧ q (.bl (decide (isW a b))) M
def sp_are_places (K : Frag) : Sp' := fun us M q _ => ∃ n i j : Int, us = [.int n, .int i, .int j] ∧ q (.bl (decide (0 ≤ i ∧ i < n ∧ 0 ≤ j ∧ j < n ∧ i ≠ j))) M
def sp_is_tie (K : Frag) : Sp' := fun us M q _ => ∃ (n : Int) (u : U) (r : Row), us = [.int n, u] ∧ isR u r ∧ q (.bl (decide (0 ≤ r.i ∧ r.i < r.j ∧ r.j < n ∧ isW r.a r.b))) M
/-- of ties that are right -/
def sp_wrong_tie (K : Frag) : Sp' := fun us M q _ => ∃ (n : Int) (u : U) (xs : List U) (rs : List Row), us = [.int n, u] ∧ seqL M u = some xs ∧ xs.length < 100000 ∧ Paired isR xs rs ∧ (∀ r ∈ rs, okTie n r) ∧ (rs.map keyR).Nodup ∧ ∀ M', Sub M M' → q .non M'
def sp_weights_in (K : Frag) : Sp' := fun us M q _ => ∃ (u : U) (xs : List U) (rs : List Row), us = [u] ∧ seqL M u = some xs ∧ xs.length < 100000 ∧ Paired isR xs rs ∧ (rs.map keyR).Nodup ∧ ∀ p M', Sub M M' → M p = none → M' p = some (.dic true false (rs.map pairR)) → q (.ref p) M'
def sp_put_weights (K : Frag) : Sp' := fun us M q _ => ∃ (x d : Addr) (fs : List (Str × U)) (rs : List Row), us = [.ref x, .ref d] ∧ M x = some (.ins (He.ga K "Web") fs) ∧ M d = some (.dic true false (rs.map pairR)) ∧ fs.length ≤ 10 ∧ rs.length < 100000 ∧ (rs.map keyR).Nodup ∧
  ∀ p M', Keep x M M' → M' x = some (.ins (He.ga K "Web") (putU "ties" (.tup ((told rs).map rowU)) (putU "weights" (.ref p) fs))) → M' p = some (.dic true false ((told rs).map pairR)) → q .non M'
def sp_Web_init (K : Frag) : Sp' := fun us M q _ => ∃ (x : Addr) (n : Int) (u : U) (xs : List U) (rs : List Row), us = [.ref x, .int n, u] ∧ M x = some (.ins (He.ga K "Web") []) ∧ 1 ≤ n ∧ n ≤ 40 ∧ seqL M u = some xs ∧ xs.length < 100000 ∧ Paired isR xs rs ∧ (∀ r ∈ rs, okTie n r) ∧ (rs.map keyR).Nodup ∧
  ∀ M', Keep x M M' → webAt K M' x n (told rs) → q .non M'
def sp_NoTie_init (K : Frag) : Sp' := fun _ _ _ _ => False
def sp_Web_tie (K : Frag) : Sp' := fun _ _ _ _ => False
/-! ### texts -/
def sp_amount_text (K : Frag) : Sp' := fun us M q _ => ∃ u a b, us = [u] ∧ isAm u a b ∧ small a ∧ small b ∧ q (.str (amTxt a b)) M
def sp_row_line (K : Frag) : Sp' := fun us M q _ => ∃ (w : Str) (u : U) (r : Row), us = [.str w, u] ∧ w.length ≤ 100 ∧ isR u r ∧ smallR r ∧ q (.str (rowTxt w r)) M
def sp_show_web (K : Frag) : Sp' := fun us M q _ => ∃ x n rs, us = [.ref x] ∧ webAt K M x n rs ∧ small n ∧ rs.length ≤ 1000 ∧ (∀ r ∈ rs, smallR r) ∧ q (.str ("places " ++ sT n ++ "\n" ++ j0 (rs.map (rowTxt "tie")))) M
def spShow (w : Str) : Sp' := fun us M q _ => ∃ u xs rs, us = [u] ∧ seqF u = some xs ∧ Paired isR xs rs ∧ xs.length ≤ 1000 ∧ (∀ r ∈ rs, smallR r) ∧ q (.str (j0 (rs.map (rowTxt w)))) M
def sp_show_tree (K : Frag) : Sp' := spShow "branch"
def sp_show_flow (K : Frag) : Sp' := spShow "flow"
def sideTxt (s : List Int) : Str := "side " ++ Txt.join " " (s.map sT) ++ "\n"
def isS' (u : U) (s : List Int) : Prop := seqF u = some (s.map U.int)
def sp_show_sides (K : Frag) : Sp' := fun us M q _ => ∃ u xs ss, us = [u] ∧ seqF u = some xs ∧ Paired isS' xs ss ∧ xs.length ≤ 50 ∧ (∀ s ∈ ss, s.length ≤ 50 ∧ ∀ i ∈ s, small i) ∧ q (.str (j0 (ss.map sideTxt))) M
/-! ### what the law makes -/
def big (n : Int) : Prop := 0 ≤ n ∧ n < 10 ^ 30
def sp__law_deck (K : Frag) : Sp' := fun us M q _ => ∃ (ns : List Int) (m : Nat), us = [scriptU ns, .int m] ∧ ns.length ≤ 63 ∧ m ≤ 100000 ∧ ∀ d M', M d = none → Sub M M' → Dk M' d m → q (.ref d) M'
def sp__law_lowest (K : Frag) : Sp' := fun us M q _ => ∃ a b : Int, us = [.int a, .int b] ∧ big a ∧ big b ∧ 1 ≤ b ∧ ∀ x y : Int, big x → big y → 1 ≤ y → Int.gcd x y = 1 → q (.tup [.int x, .int y]) M
def sp__law_number (K : Frag) : Sp' := fun us M q _ => ∃ a b : Int, us = [.tup [.int a, .int b]] ∧ small a ∧ small b ∧ q (.str (amTxt a b)) M
def okRow (r : Row) : Prop := 0 ≤ r.i ∧ r.i < 100 ∧ 0 ≤ r.j ∧ r.j < 100 ∧ big r.a ∧ big r.b ∧ 1 ≤ r.b ∧ Int.gcd r.a r.b = 1
def sp__law_any (K : Frag) : Sp' := fun us M q _ => ∃ d n, us = [.ref d] ∧ Dk M d (n + 2) ∧ ∀ (x y : Int) (M' : Mp), big x → big y → 1 ≤ y → Int.gcd x y = 1 → Keep d M M' → Dk M' d n → q (.tup [.int x, .int y]) M'
def sp__law_drawn (K : Frag) : Sp' := fun us M q _ => ∃ (d : Addr) (n m : Nat), us = [.ref d, .int m] ∧ m ≤ 1000 ∧ Dk M d (n + 3 * m) ∧ ∀ (rs : List Row) (M' : Mp), rs.length = m → (∀ r ∈ rs, okRow r) → Keep d M M' → Dk M' d n → q (.lst (rs.map rowU)) M'
def okSide (s : List Int) : Prop := 1 ≤ s.length ∧ s.length ≤ 6 ∧ ∀ i ∈ s, 0 ≤ i ∧ i < 100
def sideU (s : List Int) : U := .tup (s.map U.int)
def sp__law_places (K : Frag) : Sp' := fun us M q _ => ∃ (d : Addr) (n m : Nat), us = [.ref d, .int m] ∧ m ≤ 1000 ∧ Dk M d (n + 7 * m) ∧ ∀ (ss : List (List Int)) (M' : Mp), ss.length = m → (∀ s ∈ ss, okSide s) → Keep d M M' → Dk M' d n → q (.lst (ss.map sideU)) M'
def ltR (r s : Row) : Prop := r.i < s.i ∨ (r.i = s.i ∧ r.j < s.j)
def sp__law_ties (K : Frag) : Sp' := fun us M q _ => ∃ (d : Addr) (n : Nat) (m : Int), us = [.ref d, .int m] ∧ 1 ≤ m ∧ m ≤ 40 ∧ Dk M d (n + 9) ∧ ∀ (rs : List Row) (M' : Mp), rs.length ≤ 8 → (∀ r ∈ rs, okTie m r) → rs.Pairwise ltR → Keep d M M' → Dk M' d n → q (.lst (rs.map rowU)) M'
def lineTxt (w : Str) (r : Row) : Str := Txt.join " " [w, sT r.i, sT r.j, amTxt r.a r.b]
def sp__law_line (K : Frag) : Sp' := fun us M q _ => ∃ (w : Str) (r : Row), us = [.str w, rowU r] ∧ w.length ≤ 100 ∧ smallR r ∧ q (.str (lineTxt w r)) M
/-- tuples to lists, all through -/
def lsT : Nat → U → U
  | n + 1, .tup xs => .lst (xs.map (lsT n))
  | _, u => u
def tdeep : Nat → U → Prop
  | 0, u => ∃ i, u = .int i
  | n + 1, u => (∃ i, u = .int i) ∨ ∃ xs, u = .tup xs ∧ xs.length ≤ sizeLine ∧ ∀ x ∈ xs, tdeep n x
def sp__law_lists (n : Nat) (K : Frag) : Sp' := fun us M q _ => ∃ u, us = [u] ∧ tdeep n u ∧ q (lsT n u) M
def sp_law (K : Frag) : Sp' := fun us M q _ => ∃ ns, us = [scriptU ns] ∧ ns.length ≤ 63 ∧ ∀ M', q (.bl true) M'
end Cw

set_option Elab.async false
set_option linter.all false
set_option maxRecDepth 100000
set_option maxHeartbeats 0
namespace Cw
open PySem PySem.Spec L2 L3
open PyProof.Rows hiding St
/-! ### texts as lists of signs: lines, words -/
abbrev tl (x : Str) : List Nat := x.cps.toList
def mkS (l : List Nat) : Str := ⟨l.toArray⟩
theorem tl_mkS (l : List Nat) : tl (mkS l) = l := rfl
theorem mkS_tl (x : Str) : mkS (tl x) = x := TL.mk_tl x
theorem mkS_inj {a b : List Nat} (h : mkS a = mkS b) : a = b := by
  have := congrArg tl h
  rwa [tl_mkS, tl_mkS] at this
theorem tl_app (a b : Str) : tl (a ++ b) = tl a ++ tl b := TL.tl_append a b
theorem len_tl (x : Str) : x.length = (tl x).length := TL.len_tl x
/-- cut at every s -/
def cut (s : Nat) : List Nat → List Nat → List (List Nat)
  | acc, [] => [acc]
  | acc, c :: r => if c = s then acc :: cut s [] r else cut s (acc ++ [c]) r
theorem pre1 (s c : Nat) (r : List Nat) : TL.pre [s] (c :: r) = decide (c = s) := by
  by_cases h : c = s
  · subst h; simp [TL.pre]
  · simp [TL.pre, h, Ne.symm h]
theorem spl_cut (s : Nat) : ∀ (l acc : List Nat), TL.spl [s] 0 acc l = cut s acc l
  | [], acc => TL.spl_nil [s] 0 acc
  | c :: r, acc => by
    unfold cut
    by_cases h : c = s
    · rw [if_pos h, TL.spl_hit (by rw [pre1]; exact decide_eq_true h)]
      show acc :: TL.spl [s] 0 [] r = _
      rw [spl_cut s r []]
    · rw [if_neg h, TL.spl_miss (by rw [pre1]; exact decide_eq_false h), spl_cut s r]
theorem split_cut {x y : Str} {s : Nat} (hy : tl y = [s]) (hs : s < 128) : (Txt.split x y).map tl = cut s [] (tl x) := by
  have hy' : TL.tl y = [s] := hy
  rw [TL.split_spl x y (by rw [hy']; simp) (TL.kind_ok (by
    have e : y.cps = #[s] := by
      apply Array.toList_inj.mp
      exact hy
    rw [e]
    simp
    omega)), hy', spl_cut]
theorem cut_cons (s : Nat) (acc : List Nat) (c : Nat) (r : List Nat) : cut s acc (c :: r) = if c = s then acc :: cut s [] r else cut s (acc ++ [c]) r := rfl
theorem cut_app (s : Nat) : ∀ (x acc y : List Nat), cut s acc (x ++ s :: y) = cut s acc x ++ cut s [] y
  | [], acc, y => by
    show (if s = s then acc :: cut s [] y else _) = [acc] ++ cut s [] y
    rw [if_pos rfl]; rfl
  | c :: r, acc, y => by
    rw [List.cons_append, cut_cons, cut_cons]
    by_cases h : c = s
    · rw [if_pos h, if_pos h, cut_app s r [] y, List.cons_append]
    · rw [if_neg h, if_neg h, cut_app s r (acc ++ [c]) y]
theorem cut_free {s : Nat} : ∀ {l acc : List Nat}, s ∉ l → cut s acc l = [acc ++ l]
  | [], acc, _ => by unfold cut; simp
  | c :: r, acc, h => by
    unfold cut
    rw [if_neg (fun e => h (by rw [e]; exact List.mem_cons_self ..)), cut_free fun z => h (List.mem_cons_of_mem _ z)]
    simp
theorem cut_ne {s : Nat} : ∀ (l acc : List Nat), cut s acc l ≠ []
  | [], acc => by unfold cut; simp
  | c :: r, acc => by
    unfold cut
    split
    · simp
    · exact cut_ne r _
/-- the words of a line -/
def wordsL (l : List Nat) : List (List Nat) := (cut 32 [] l).filter fun w => decide (w ≠ [])
theorem words_app (x y : List Nat) : wordsL (x ++ 32 :: y) = wordsL x ++ wordsL y := by
  unfold wordsL
  rw [cut_app, List.filter_append]
theorem words_nil : wordsL [] = [] := rfl
theorem words_one {w : List Nat} (h : 32 ∉ w) (hn : w ≠ []) : wordsL w = [w] := by
  unfold wordsL
  rw [cut_free h]
  simp [hn]
theorem words_cons (y : List Nat) : wordsL (32 :: y) = wordsL y := by
  have := words_app [] y
  rwa [words_nil, List.nil_append, List.nil_append] at this
theorem words_spaces (n : Nat) (y : List Nat) : wordsL (List.replicate n 32 ++ y) = wordsL y := by
  induction n with
  | zero => rfl
  | succ n ih => rw [List.replicate_succ, List.cons_append, words_cons, ih]
theorem words_end (y : List Nat) : wordsL (y ++ [32]) = wordsL y := by
  rw [words_app, words_nil, List.append_nil]
theorem words_ends (n : Nat) (y : List Nat) : wordsL (y ++ List.replicate n 32) = wordsL y := by
  induction n with
  | zero => rw [List.replicate_zero, List.append_nil]
  | succ n ih =>
    rw [List.replicate_succ', ← List.append_assoc, words_end, ih]
/-- words with c + 1 blanks between -/
def glue (c : Nat) : List (List Nat) → List Nat
  | [] => []
  | [w] => w
  | w :: v :: r => w ++ (List.replicate (c + 1) 32 ++ glue c (v :: r))
theorem words_glue (c : Nat) : ∀ (ws : List (List Nat)), (∀ w ∈ ws, 32 ∉ w ∧ w ≠ []) → wordsL (glue c ws) = ws
  | [], _ => rfl
  | [w], h => words_one (h w (by simp)).1 (h w (by simp)).2
  | w :: v :: r, h => by
    show wordsL (w ++ (List.replicate (c + 1) 32 ++ glue c (v :: r))) = _
    rw [List.replicate_succ, List.cons_append, words_app, words_spaces, words_glue c (v :: r) fun u hu => h u (List.mem_cons_of_mem _ hu), words_one (h w (by simp)).1 (h w (by simp)).2]
    rfl
/-- the lines that say something: their words -/
def saysL (t : List Nat) : List (List (List Nat)) := ((cut 10 [] t).map wordsL).filter fun ws => decide (ws ≠ [])
theorem says_app (x y : List Nat) : saysL (x ++ 10 :: y) = saysL x ++ saysL y := by
  unfold saysL
  rw [cut_app, List.map_append, List.filter_append]
theorem says_nil : saysL [] = [] := rfl
theorem says_line {l : List Nat} (h : 10 ∉ l) : saysL l = if wordsL l = [] then [] else [wordsL l] := by
  unfold saysL
  rw [cut_free h]
  by_cases e : wordsL l = [] <;> simp [e]
theorem says_nl (y : List Nat) : saysL (10 :: y) = saysL y := by
  have := says_app [] y
  rwa [says_nil, List.nil_append, List.nil_append] at this
/-- a text that ends by a line feed, or nothing -/
def shut (t : List Nat) : Prop := t = [] ∨ ∃ t', t = t' ++ [10]
theorem says_shut {t : List Nat} (h : shut t) (y : List Nat) : saysL (t ++ y) = saysL t ++ saysL y := by
  rcases h with rfl | ⟨t', rfl⟩
  · rfl
  · rw [List.append_assoc]
    show saysL (t' ++ 10 :: y) = saysL (t' ++ 10 :: []) ++ saysL y
    rw [says_app, says_app, says_nil, List.append_nil]
theorem says_cutoff {t : List Nat} : saysL (t ++ [10]) = saysL t := by
  show saysL (t ++ 10 :: []) = _
  rw [says_app, says_nil, List.append_nil]
/-- a line as _law_spread lays it -/
theorem says_laid {f p : List Nat} {a b c : Nat} {ws : List (List Nat)} (hf : shut f) (hp : shut p) (hp0 : saysL p = []) (hw : ∀ w ∈ ws, 32 ∉ w ∧ 10 ∉ w ∧ w ≠ []) (hn : ws ≠ []) :
    saysL (f ++ p ++ List.replicate a 32 ++ glue c ws ++ List.replicate b 32 ++ [10]) = saysL f ++ [ws] := by
  have hg : ∀ (ws : List (List Nat)), (∀ w ∈ ws, 10 ∉ w) → 10 ∉ glue c ws := by
    intro ws
    induction ws with
    | nil => intro _ h; simp [glue] at h
    | cons w r ih =>
      intro h hm
      cases r with
      | nil => exact h w (by simp) hm
      | cons v r =>
        have hm' : 10 ∈ w ++ (List.replicate (c + 1) 32 ++ glue c (v :: r)) := hm
        rcases List.mem_append.mp hm' with z | z
        · exact h w (by simp) z
        · rcases List.mem_append.mp z with z | z
          · have := List.eq_of_mem_replicate z
            omega
          · exact ih (fun u hu => h u (List.mem_cons_of_mem _ hu)) z
  rw [says_cutoff]
  have e : f ++ p ++ List.replicate a 32 ++ glue c ws ++ List.replicate b 32 = f ++ (p ++ (List.replicate a 32 ++ (glue c ws ++ List.replicate b 32))) := by simp
  rw [e, says_shut hf, says_shut hp, hp0, List.nil_append]
  have hl : 10 ∉ List.replicate a 32 ++ (glue c ws ++ List.replicate b 32) := by
    intro hm
    rcases List.mem_append.mp hm with z | z
    · have := List.eq_of_mem_replicate z; omega
    · rcases List.mem_append.mp z with z | z
      · exact hg ws (fun w hw' => (hw w hw').2.1) z
      · have := List.eq_of_mem_replicate z; omega
  rw [says_line hl, words_spaces, words_ends, words_glue c ws fun w hw' => ⟨(hw w hw').1, (hw w hw').2.2⟩, if_neg hn]
end Cw

set_option Elab.async false
set_option linter.all false
set_option maxRecDepth 100000
set_option maxHeartbeats 0
namespace Cw
open PySem PySem.Spec L2 L3
open PyProof.Rows hiding St
/-! ### promises: texts read -/
def valid (l : List Nat) : Prop := ∀ c ∈ l, c < 1000
def isDig (c : Nat) : Bool := decide (48 ≤ c ∧ c ≤ 57)
def okNum (w : List Nat) (most : Int) : Bool := decide (1 ≤ w.length ∧ (w.length : Int) ≤ most) && (w.all isDig && !(decide (1 < w.length) && decide (w.head? = some 48)))
def numV (w : List Nat) : Int := ((NumText.digitsVal w : Nat) : Int)
def numU (w : List Nat) (most : Int) : U := if okNum w most = true then .int (numV w) else .non
def sp_number_in (K : Frag) : Sp' := fun us M q _ => ∃ (w : List Nat) (most : Int), us = [.str (mkS w), .int most] ∧ most ≤ 600 ∧ w.length ≤ 1000000 ∧ valid w ∧ q (numU w most) M
/-- an amount's parts -/
def amV (w : List Nat) : Option (Int × Int) := match cut 47 [] w with
  | [a] => if okNum a 30 = true then some (numV a, 1) else none
  | [a, b] => if okNum a 30 = true ∧ okNum b 30 = true ∧ 2 ≤ numV b ∧ Int.gcd (numV a) (numV b) = 1 then some (numV a, numV b) else none
  | _ => none
def amOU : Option (Int × Int) → U
  | some p => .tup [.int p.1, .int p.2]
  | none => .non
def sp_amount_in (K : Frag) : Sp' := fun us M q _ => ∃ w : List Nat, us = [.str (mkS w)] ∧ w.length ≤ 1000000 ∧ valid w ∧ q (amOU (amV w)) M
def linesI (t : List Nat) : List (Nat × List (List Nat)) := (((cut 10 [] t).map wordsL).zipIdx.map fun p => (p.2, p.1)).filter fun p => decide (p.2 ≠ [])
def wordsU (ws : List (List Nat)) : U := .lst (ws.map fun w => .str (mkS w))
def lineU (p : Nat × List (List Nat)) : U := .tup [.int p.1, wordsU p.2]
def sp_lines_in (K : Frag) : Sp' := fun us M q _ => ∃ t : List Nat, us = [.str (mkS t)] ∧ t.length ≤ 1000000 ∧ valid t ∧ q (.lst ((linesI t).map lineU)) M
def okWords (ws : List (List Nat)) : Prop := ws.length ≤ 1000000 ∧ ∀ w ∈ ws, w.length ≤ 1000000 ∧ valid w
def rowV (ws : List (List Nat)) (word : Str) : Option Row := match ws with
  | [a, b, c, d] => if mkS a = word ∧ okNum b 2 = true ∧ okNum c 2 = true then (amV d).map fun p => ⟨numV b, numV c, p.1, p.2⟩ else none
  | _ => none
def rowOU : Option Row → U
  | some r => rowU r
  | none => .non
def sp_row_in (K : Frag) : Sp' := fun us M q _ => ∃ (ws : List (List Nat)) (word : Str), us = [wordsU ws, .str word] ∧ okWords ws ∧ q (rowOU (rowV ws word)) M
def manyV (ws : List (List Nat)) : Option Int := match ws with
  | [a, b] => if mkS a = "places" ∧ okNum b 2 = true ∧ 1 ≤ numV b ∧ numV b ≤ 40 then some (numV b) else none
  | _ => none
def intOU : Option Int → U
  | some i => .int i
  | none => .non
def sp_many_in (K : Frag) : Sp' := fun us M q _ => ∃ ws : List (List Nat), us = [wordsU ws] ∧ okWords ws ∧ q (intOU (manyV ws)) M
/-- a text's first line that is none, by what a right line is -/
def firstBad (ok : List (List Nat) → Prop) (t : List Nat) (n : Nat) : Prop := ∃ pre p post, linesI t = pre ++ p :: post ∧ (∀ x ∈ pre, ok x.2) ∧ ¬ ok p.2 ∧ n = p.1
def okRowL (word : Str) (ws : List (List Nat)) : Prop := (rowV ws word).isSome = true
/-- .. of a web -/
def badWeb (t : List Nat) (n : Nat) : Prop := (linesI t = [] ∧ n + 1 = (cut 10 [] t).length) ∨ (∃ w0 rest, linesI t = (n, w0) :: rest ∧ manyV w0 = none) ∨
  ∃ i0 w0 m pre p post rs, linesI t = (i0, w0) :: (pre ++ p :: post) ∧ manyV w0 = some m ∧ Paired (fun p r => rowV p.2 "tie" = some r) pre rs ∧ (∀ r ∈ rs, okTie m r) ∧ (rs.map keyR).Nodup ∧ n = p.1 ∧
    (∀ r, rowV p.2 "tie" = some r → okTie m r → keyR r ∈ rs.map keyR)
def noLine (K : Frag) (e : XK') (n : Nat) (M : Mp) : Prop := ∀ M', L3.Sub M M' → e (He.ga K "NoLine") [("at", .int n)] M'
def sp_read_web (K : Frag) : Sp' := fun us M _ e => ∃ (t : List Nat) (n : Nat), us = [.str (mkS t)] ∧ t.length ≤ 1000000 ∧ valid t ∧ badWeb t n ∧ noLine K e n M
def sp_rows_in (K : Frag) : Sp' := fun us M _ e => ∃ (t : List Nat) (w : Str) (n : Nat), us = [.str (mkS t), .str w] ∧ t.length ≤ 1000000 ∧ valid t ∧ firstBad (okRowL w) t n ∧ noLine K e n M
def spRd (K : Frag) (w : Str) : Sp' := fun us M _ e => ∃ (t : List Nat) (n : Nat), us = [.str (mkS t)] ∧ t.length ≤ 1000000 ∧ valid t ∧ firstBad (okRowL w) t n ∧ noLine K e n M
def sp_read_tree (K : Frag) : Sp' := fun us M _ e => ∃ (t : List Nat) (n : Nat), us = [.str (mkS t)] ∧ t.length ≤ 1000000 ∧ valid t ∧ firstBad (okRowL "branch") t n ∧ noLine K e n M
def sp_read_flow (K : Frag) : Sp' := fun us M _ e => ∃ (t : List Nat) (n : Nat), us = [.str (mkS t)] ∧ t.length ≤ 1000000 ∧ valid t ∧ firstBad (okRowL "flow") t n ∧ noLine K e n M
/-- a line of a side -/
def isSide (ws : List (List Nat)) (s : List Int) : Prop := ∃ a r, ws = a :: r ∧ mkS a = "side" ∧ r ≠ [] ∧ (∀ w ∈ r, okNum w 2 = true) ∧ s = r.map numV
def okSideL (ws : List (List Nat)) : Prop := ∃ s, isSide ws s
def sp_read_sides (K : Frag) : Sp' := fun us M _ e => ∃ (t : List Nat) (n : Nat), us = [.str (mkS t)] ∧ t.length ≤ 1000000 ∧ valid t ∧ firstBad okSideL t n ∧ noLine K e n M
/-- lines put together -/
def joinN : List (List Nat) → List Nat
  | [] => []
  | [w] => w
  | w :: v :: r => w ++ 10 :: joinN (v :: r)
def okWord (w : Str) : Prop := tl w ≠ [] ∧ 32 ∉ tl w ∧ 10 ∉ tl w ∧ valid (tl w)
def okLine (ws : List Str) : Prop := ws ≠ [] ∧ (∀ w ∈ ws, okWord w) ∧ ws.length ≤ 60 ∧ (Txt.join " " ws).length ≤ 1000
def sp_NoLine_init (K : Frag) : Sp' := fun _ _ _ _ => False
/-- text t, by which, has no line n -/
def badBy (which : Int) (t : List Nat) (n : Nat) : Prop := (which = 0 ∧ badWeb t n) ∨ (which = 1 ∧ firstBad (okRowL "branch") t n) ∨ (which = 2 ∧ firstBad (okRowL "flow") t n) ∨ (which = 3 ∧ firstBad okSideL t n)
def sp__law_caught (K : Frag) : Sp' := fun us M q _ => ∃ (w : Int) (t : List Nat) (n : Nat), us = [.int w, .str (mkS t)] ∧ t.length ≤ 1000000 ∧ valid t ∧ badBy w t n ∧ ∀ M', L3.Sub M M' → q (.int n) M'
def restsL : List (List Nat) := [[], [32, 48], [32, 48, 32, 49], [32, 48, 32, 49, 32, 49, 32, 49], [32, 97, 32, 49, 32, 49], [32, 48, 32, 49, 32, 98], [32, 48, 48, 32, 49, 32, 49], [32, 48, 32, 48, 49, 32, 49], [32, 48, 32, 49, 32, 48, 49], [32, 48, 32, 49, 32, 50, 47, 50], [32, 48, 32, 49, 32, 52, 47, 54], [32, 48, 32, 49, 32, 49, 47, 49], [32, 48, 32, 49, 32, 49, 47, 48], [32, 48, 32, 49, 32, 48, 47, 49], [32, 48, 32, 49, 32, 48, 47, 50], [32, 48, 32, 49, 32, 47, 50], [32, 48, 32, 49, 32, 49, 47], [32, 48, 32, 49, 32, 47], [32, 48, 32, 49, 32, 49, 47, 50, 47, 51], [32, 49, 48, 48, 32, 49, 32, 49], [32, 48, 32, 49, 48, 48, 32, 49], [32, 48, 32, 49, 32, 49, 48, 48, 48, 48, 48, 48, 48, 48, 48, 48, 48, 48, 48, 48, 48, 48, 48, 48, 48, 48, 48, 48, 48, 48, 48, 48, 48, 48, 48, 48], [32, 48, 32, 49, 32, 49, 47, 49, 48, 48, 48, 48, 48, 48, 48, 48, 48, 48, 48, 48, 48, 48, 48, 48, 48, 48, 48, 48, 48, 48, 48, 48, 48, 48, 48, 48, 48, 48], [32, 48, 32, 49, 47, 49, 32, 49], [32, 48, 32, 49, 32, 49, 47, 48, 50], [32, 48, 32, 49, 32, 48, 49, 47, 50]]
def moreL (w : List Nat) : List (List Nat) := [w ++ tl "0 1 1", tl "x 0 1 1", tl "0 1 1", w.dropLast ++ tl " 0 1 1", w ++ w ++ tl " 0 1 1"]
def wrongL (w : List Nat) : List (List Nat) := restsL.map (w ++ ·) ++ moreL w
def sp__law_wrong (K : Frag) : Sp' := fun us M q _ => ∃ w : List Nat, us = [.str (mkS w)] ∧ w.length ≤ 100 ∧ ∀ M', L3.Sub M M' → q (.lst ((wrongL w).map fun l => .str (mkS l))) M'
/-- lines of a text -/
def okL (ls : List (List Nat)) : Prop := ls.length ≤ 100 ∧ ∀ l ∈ ls, 10 ∉ l ∧ valid l ∧ l.length ≤ 1000
def sp__law_put (K : Frag) : Sp' := fun us M q _ => ∃ (d : Addr) (ls : List (List Nat)) (wr : List Nat) (f : Nat), us = [.ref d, .lst (ls.map fun l => .str (mkS l)), .str (mkS wr), .int f] ∧ okL ls ∧ okL [wr] ∧ f ≤ ls.length ∧ Dk M d 2 ∧
  ∀ (a b k : Nat) (x : List Nat) (M' : Mp), f ≤ k → k ≤ ls.length → a ≤ 2 → b ≤ 1 → okL [x] → Keep d M M' → q (.tup [.str (mkS (joinN ((List.replicate a [] ++ ls.take k ++ List.replicate b [32, 32]) ++ wr :: (ls.drop k ++ [x])))), .int ((a + k + b : Nat) : Int)]) M'
def sp__law_webs (K : Frag) : Sp' := fun us M q _ => ∃ d, us = [.ref d] ∧ Dk M d 60 ∧ ∀ M', Keep d M M' → q (.bl true) M'
end Cw

set_option Elab.async false
set_option linter.all false
set_option maxRecDepth 100000
set_option maxHeartbeats 0
namespace Cw
open PySem PySem.Spec L2 L3
open PyProof.Rows hiding St
open He (Dv)

def t_NoTie_init (K : Frag) : TS' :=
  (sFld K (eV 0) (eV 1) "at")
theorem j_NoTie_init {P : Program} {w : World} {K : Frag} {mg : Str → Option Value} {base : Heap} (T : Tx K mg) (cdv : Value) (A : Around) (outer : List Env) (s : Shared) (H : Hp) (E : XK) (hr : Room 0 (A.deeper (envOfC "NoTie.__init__" (defScope s_NoTie_init) s.heap.objs.size (He.ma K (He.ga K "NoTie") "__init__") cdv))) (hg : A.guards = some []) :
    QSs (cxOf (L2.CX P w) P w K mg base n_NoTie_init "NoTie.__init__" (defScope s_NoTie_init) (He.ma K (He.ga K "NoTie") "__init__") cdv A outer s H E) (defBody s_NoTie_init) (t_NoTie_init K ) :=
  (qss_one (qs_fld (qv 0) (qv 1)))
def t_NoLine_init (K : Frag) : TS' :=
  (sFld K (eV 0) (eV 1) "at")
theorem j_NoLine_init {P : Program} {w : World} {K : Frag} {mg : Str → Option Value} {base : Heap} (T : Tx K mg) (cdv : Value) (A : Around) (outer : List Env) (s : Shared) (H : Hp) (E : XK) (hr : Room 0 (A.deeper (envOfC "NoLine.__init__" (defScope s_NoLine_init) s.heap.objs.size (He.ma K (He.ga K "NoLine") "__init__") cdv))) (hg : A.guards = some []) :
    QSs (cxOf (L2.CX P w) P w K mg base n_NoLine_init "NoLine.__init__" (defScope s_NoLine_init) (He.ma K (He.ga K "NoLine") "__init__") cdv A outer s H E) (defBody s_NoLine_init) (t_NoLine_init K ) :=
  (qss_one (qs_fld (qv 0) (qv 1)))
def t_is_whole (K : Frag) : TS' :=
  (sRet (eAnd (eB rIsi (eCons (eV 0) (eCons (eC (.ty "int")) eNil))) (eAnd (eNot (eB rIsi (eCons (eV 0) (eCons (eC (.ty "bool")) eNil)))) (eChain rLe rLe (eV 1) (eV 0) (eV 2)))))
theorem j_is_whole {P : Program} {w : World} {K : Frag} {mg : Str → Option Value} {base : Heap} (T : Tx K mg) (cdv : Value) (A : Around) (outer : List Env) (s : Shared) (H : Hp) (E : XK) (hr : Room 0 (A.deeper (envOfC "is_whole" (defScope s_is_whole) s.heap.objs.size (He.ga K "is_whole") cdv))) (hg : A.guards = some []) :
    QSs (cxOf (L2.CX P w) P w K mg base n_is_whole "is_whole" (defScope s_is_whole) (He.ga K "is_whole") cdv A outer s H E) (defBody s_is_whole) (t_is_whole K ) :=
  (qss_one (qs_ret (qe_and (qe_B c_isi (T.free 35 rfl) bb_isinstance (qa_cons (qv 0) (qa_cons (qe_ty (T.free 39 rfl) bb_int) qa_nil))) (qe_and (qe_not (qe_B c_isi (T.free 35 rfl) bb_isinstance (qa_cons (qv 0) (qa_cons (qe_ty (T.free 44 rfl) bb_bool) qa_nil)))) (qe_one (qe_chain o_le o_le (qv 1) (qv 0) (qv 2)))))))
def t_is_row (K : Frag) : TS' :=
  (sRet (eB rIsi (eCons (eV 0) (eCons (eTup (eCons (eC (.ty "list")) (eCons (eC (.ty "tuple")) eNil))) eNil))))
theorem j_is_row {P : Program} {w : World} {K : Frag} {mg : Str → Option Value} {base : Heap} (T : Tx K mg) (cdv : Value) (A : Around) (outer : List Env) (s : Shared) (H : Hp) (E : XK) (hr : Room 0 (A.deeper (envOfC "is_row" (defScope s_is_row) s.heap.objs.size (He.ga K "is_row") cdv))) (hg : A.guards = some []) :
    QSs (cxOf (L2.CX P w) P w K mg base n_is_row "is_row" (defScope s_is_row) (He.ga K "is_row") cdv A outer s H E) (defBody s_is_row) (t_is_row K ) :=
  (qss_one (qs_ret (qe_B c_isi (T.free 35 rfl) bb_isinstance (qa_cons (qv 0) (qa_cons (qe_tup (qa_cons (qe_ty (T.free 40 rfl) bb_list) (qa_cons (qe_ty (T.free 36 rfl) bb_tuple) qa_nil))) qa_nil)))))
def t_as_tuples (K : Frag) (sp : Sp') : TS' :=
  (sSeq (sIf (tNot' (tB' (eCall (sp_is_row K) noW (eCons (eV 0) eNil))))
    (sRet (eV 0))
    sNext)
  (sRet (eB rTuple (eCons (eLc (iSeq (eV 0)) (gN 1) tYes' (eCall sp noW (eCons (eV 1) eNil)) [1]) eNil))))
theorem j_as_tuples (sp : Sp') (n : Nat) (hn : 1 ≤ n) {P : Program} {w : World} {K : Frag} {mg : Str → Option Value} {base : Heap} (T : Tx K mg) (D_is_row : Def' P w K mg base 1 (He.ga K "is_row") ["thing"] (sp_is_row K)) (D_as_tuples : Def' P w K mg base n (He.ga K "as_tuples") ["thing"] sp) (cdv : Value) (A : Around) (outer : List Env) (s : Shared) (H : Hp) (E : XK) (hr : Room n (A.deeper (envOfC "as_tuples" (defScope s_as_tuples) s.heap.objs.size (He.ga K "as_tuples") cdv))) (hg : A.guards = some []) :
    QSs (cxOf (L2.CX P w) P w K mg base n_as_tuples "as_tuples" (defScope s_as_tuples) (He.ga K "as_tuples") cdv A outer s H E) (defBody s_as_tuples) (t_as_tuples K sp) :=
  (qss_cons (qs_if (qt_not (qt_val (qd_call D_is_row hr hg tk_no (T.glo 1 rfl) (qa_cons (qv 0) qa_nil))))
    (qss_one (qs_ret (qv 0)))
    qss_nil)
  (qss_one (qs_ret (qe_T c_tuple (T.free 36 rfl) bb_tuple (qa_cons (qe_lc rfl sc_as_tuples.nd (qi_seq (qv 0)) (own := [("part", 1)]) (blk_ok (by kernel_rfl)) (fun _ _ _ _ _ => (qv_name (i := 1) sc_as_tuples.nd)) (fun _ _ _ _ _ => qts_nil) (fun _ _ _ _ _ => (qd_call D_as_tuples hr hg tk_no (T.glo 2 rfl) (qa_cons (qv 1) qa_nil)))) qa_nil)))))
def t_divisor (K : Frag) : TS' :=
  (sSeq (sWhile (tB' (eBin rGt (eV 1) (eC (.int 0))))
    (sPar 0 1 (eCons (eV 1) (eCons (eBin rMod (eV 0) (eV 1)) eNil))))
  (sRet (eV 0)))
theorem j_divisor {P : Program} {w : World} {K : Frag} {mg : Str → Option Value} {base : Heap} (T : Tx K mg) (cdv : Value) (A : Around) (outer : List Env) (s : Shared) (H : Hp) (E : XK) (hr : Room 0 (A.deeper (envOfC "divisor" (defScope s_divisor) s.heap.objs.size (He.ga K "divisor") cdv))) (hg : A.guards = some []) :
    QSs (cxOf (L2.CX P w) P w K mg base n_divisor "divisor" (defScope s_divisor) (He.ga K "divisor") cdv A outer s H E) (defBody s_divisor) (t_divisor K ) :=
  (qss_cons (qs_while (passes_of rfl) (qt_cmp o_gt (qv 1) qe_int (nomark _))
    (qss_one (qs_par (i := 0) (j := 1) rfl sc_divisor.nd (qa_cons (qv 1) (qa_cons (qe_op o_mod (qv 0) (qv 1)) qa_nil)))))
  (qss_one (qs_ret (qv 0))))
def t_is_amount (K : Frag) : TS' :=
  (sSeq (sIf (tOr' (tNot' (tB' (eCall (sp_is_row K) noW (eCons (eV 0) eNil)))) (tB' (eBin rNe (eB rLen (eCons (eV 0) eNil)) (eC (.int 2)))))
    (sRet (eC (.bl false)))
    sNext)
  (sSeq (sFor (iSeq (eV 0)) (gN 1)
    (sIf (tOr' (tNot' (tB' (eB rIsi (eCons (eV 1) (eCons (eC (.ty "int")) eNil))))) (tB' (eB rIsi (eCons (eV 1) (eCons (eC (.ty "bool")) eNil)))))
      (sRet (eC (.bl false)))
      sNext))
  (sRet (eAnd (eBin rGe (eBin rIx (eV 0) (eC (.int 0))) (eC (.int 0))) (eAnd (eBin rGe (eBin rIx (eV 0) (eC (.int 1))) (eC (.int 1))) (eBin rEq (eCall (sp_divisor K) noW (eCons (eBin rIx (eV 0) (eC (.int 0))) (eCons (eBin rIx (eV 0) (eC (.int 1))) eNil))) (eC (.int 1))))))))
theorem j_is_amount {P : Program} {w : World} {K : Frag} {mg : Str → Option Value} {base : Heap} (T : Tx K mg) (D_is_row : Def' P w K mg base 1 (He.ga K "is_row") ["thing"] (sp_is_row K)) (D_divisor : Def' P w K mg base 1 (He.ga K "divisor") ["one", "other"] (sp_divisor K)) (cdv : Value) (A : Around) (outer : List Env) (s : Shared) (H : Hp) (E : XK) (hr : Room 1 (A.deeper (envOfC "is_amount" (defScope s_is_amount) s.heap.objs.size (He.ga K "is_amount") cdv))) (hg : A.guards = some []) :
    QSs (cxOf (L2.CX P w) P w K mg base n_is_amount "is_amount" (defScope s_is_amount) (He.ga K "is_amount") cdv A outer s H E) (defBody s_is_amount) (t_is_amount K ) :=
  (qss_cons (qs_if (QW.pt (qw_or (qt_not (qt_val (qd_call D_is_row hr hg tk_no (T.glo 1 rfl) (qa_cons (qv 0) qa_nil)))) (qw_or1 (qt_cmp (o_ne hr.units) (qe_B c_len (T.free 43 rfl) bb_len (qa_cons (qv 0) qa_nil)) qe_int (nomark _)))))
    (qss_one (qs_ret qe_bl))
    qss_nil)
  (qss_cons (qs_for (passes_of rfl) rfl (qi_seq (qv 0)) (qg_name (i := 1) sc_is_amount.nd)
    (qss_one (qs_if (QW.pt (qw_or (qt_not (qt_val (qe_B c_isi (T.free 35 rfl) bb_isinstance (qa_cons (qv 1) (qa_cons (qe_ty (T.free 39 rfl) bb_int) qa_nil))))) (qw_or1 (qt_val (qe_B c_isi (T.free 35 rfl) bb_isinstance (qa_cons (qv 1) (qa_cons (qe_ty (T.free 44 rfl) bb_bool) qa_nil)))))))
      (qss_one (qs_ret qe_bl))
      qss_nil)))
  (qss_one (qs_ret (qe_and (qe_cmp o_ge (qe_ix (hu_of hr) (qv 0) qe_int) qe_int (nomark _)) (qe_and (qe_cmp o_ge (qe_ix (hu_of hr) (qv 0) qe_int) qe_int (nomark _)) (qe_one (qe_cmp (o_eq hr.units) (qd_call D_divisor hr hg tk_no (T.glo 3 rfl) (qa_cons (qe_ix (hu_of hr) (qv 0) qe_int) (qa_cons (qe_ix (hu_of hr) (qv 0) qe_int) qa_nil))) qe_int (nomark _)))))))))
def t_is_weight (K : Frag) : TS' :=
  (sRet (eAnd (eCall (sp_is_amount K) noW (eCons (eV 0) eNil)) (eAnd (eBin rLe (eBin rIx (eV 0) (eC (.int 0))) (eC (.int 1000000000000))) (eBin rEq (eBin rMod (eC (.int 55440)) (eBin rIx (eV 0) (eC (.int 1)))) (eC (.int 0))))))
theorem j_is_weight {P : Program} {w : World} {K : Frag} {mg : Str → Option Value} {base : Heap} (T : Tx K mg) (D_is_amount : Def' P w K mg base 2 (He.ga K "is_amount") ["thing"] (sp_is_amount K)) (cdv : Value) (A : Around) (outer : List Env) (s : Shared) (H : Hp) (E : XK) (hr : Room 2 (A.deeper (envOfC "is_weight" (defScope s_is_weight) s.heap.objs.size (He.ga K "is_weight") cdv))) (hg : A.guards = some []) :
    QSs (cxOf (L2.CX P w) P w K mg base n_is_weight "is_weight" (defScope s_is_weight) (He.ga K "is_weight") cdv A outer s H E) (defBody s_is_weight) (t_is_weight K ) :=
  (qss_one (qs_ret (qe_and (qd_call D_is_amount hr hg tk_no (T.glo 4 rfl) (qa_cons (qv 0) qa_nil)) (qe_and (qe_cmp o_le (qe_ix (hu_of hr) (qv 0) qe_int) (qe_gint (T.int 48 rfl)) (nomark _)) (qe_one (qe_cmp (o_eq hr.units) (qe_op o_mod (qe_gint (T.int 49 rfl)) (qe_ix (hu_of hr) (qv 0) qe_int)) qe_int (nomark _)))))))
def t_Web_init (K : Frag) : TS' :=
  (sSeq (sIf (tNot' (tB' (eCall (sp_is_whole K) noW (eCons (eV 1) (eCons (eC (.int 1)) (eCons (eC (.int 40)) eNil))))))
    sNever
    sNext)
  (sSeq (sSet 3 (eCall (sp_wrong_tie K) noW (eCons (eV 1) (eCons (eV 2) eNil))))
  (sSeq (sIf (tB' (eBin (rIsN not) (eV 3) (eC .non)))
    sNever
    sNext)
  (sSeq (sFld K (eV 0) (eV 1) "many")
  (sSeq (sFld K (eV 0) eDic0 "weights")
  (sSeq (sFld K (eV 0) (eTup eNil) "ties")
  (sExpr (eCall (sp_put_weights K) noW (eCons (eV 0) (eCons (eCall (sp_weights_in K) noW (eCons (eV 2) eNil)) eNil))))))))))
theorem j_Web_init {P : Program} {w : World} {K : Frag} {mg : Str → Option Value} {base : Heap} (T : Tx K mg) (D_is_whole : Def' P w K mg base 1 (He.ga K "is_whole") ["thing", "least", "most"] (sp_is_whole K)) (D_wrong_tie : Def' P w K mg base 5 (He.ga K "wrong_tie") ["many", "ties"] (sp_wrong_tie K)) (D_put_weights : Def' P w K mg base 1 (He.ga K "put_weights") ["web", "weights"] (sp_put_weights K)) (D_weights_in : Def' P w K mg base 4 (He.ga K "weights_in") ["ties"] (sp_weights_in K)) (cdv : Value) (A : Around) (outer : List Env) (s : Shared) (H : Hp) (E : XK) (hr : Room 5 (A.deeper (envOfC "Web.__init__" (defScope s_Web_init) s.heap.objs.size (He.ma K (He.ga K "Web") "__init__") cdv))) (hg : A.guards = some []) :
    QSs (cxOf (L2.CX P w) P w K mg base n_Web_init "Web.__init__" (defScope s_Web_init) (He.ma K (He.ga K "Web") "__init__") cdv A outer s H E) (defBody s_Web_init) (t_Web_init K ) :=
  (qss_cons (qs_if (qt_not (qt_val (qd_call D_is_whole hr hg tk_no (T.glo 0 rfl) (qa_cons (qv 1) (qa_cons qe_int (qa_cons (qe_gint (T.int 51 rfl)) qa_nil))))))
    (qss_one qs_never)
    qss_nil)
  (qss_cons (qs_set (i := 3) sc_Web_init.nd (qd_call D_wrong_tie hr hg tk_no (T.glo 8 rfl) (qa_cons (qv 1) (qa_cons (qv 2) qa_nil))))
  (qss_cons (qs_if (qt_cmp o_notN (qv 3) qe_non (nomark _))
    (qss_one qs_never)
    qss_nil)
  (qss_cons (qs_fld (qv 0) (qv 1))
  (qss_cons (qs_fld (qv 0) qe_dic0)
  (qss_cons (qs_fld (qv 0) (qe_tup qa_nil))
  (qss_one (qs_expr (qd_call D_put_weights hr hg tk_no (T.glo 10 rfl) (qa_cons (qv 0) (qa_cons (qd_call D_weights_in hr hg tk_no (T.glo 9 rfl) (qa_cons (qv 2) qa_nil)) qa_nil)))))))))))
def t_Web_tie (K : Frag) : TS' :=
  (sRet (eGet (eFld K (eV 0) "weights") (eTup (eCons (eB (rTwoI fun i j => if j < i then j else i) (eCons (eV 1) (eCons (eV 2) eNil))) (eCons (eB (rTwoI fun i j => if j > i then j else i) (eCons (eV 1) (eCons (eV 2) eNil))) eNil))) (eC (.tup (([0, 1] : List Int).map U.int)))))
theorem j_Web_tie {P : Program} {w : World} {K : Frag} {mg : Str → Option Value} {base : Heap} (T : Tx K mg) (cdv : Value) (A : Around) (outer : List Env) (s : Shared) (H : Hp) (E : XK) (hr : Room 0 (A.deeper (envOfC "Web.tie" (defScope s_Web_tie) s.heap.objs.size (He.ma K (He.ga K "Web") "tie") cdv))) (hg : A.guards = some []) :
    QSs (cxOf (L2.CX P w) P w K mg base n_Web_tie "Web.tie" (defScope s_Web_tie) (He.ma K (He.ga K "Web") "tie") cdv A outer s H E) (defBody s_Web_tie) (t_Web_tie K ) :=
  (qss_one (qs_ret (qe_dget (hu_of hr) (qe_fld (qv 0)) (qe_tup (qa_cons (qe_B (c_min2 rfl) (T.free 46 rfl) bb_min (qa_cons (qv 1) (qa_cons (qv 2) qa_nil))) (qa_cons (qe_B (c_max2 rfl) (T.free 47 rfl) bb_max (qa_cons (qv 1) (qa_cons (qv 2) qa_nil))) qa_nil))) (qe_gtup (T.glo 50 rfl) (rep_tupB (ns := [0, 1]) T.ex_NOUGHT)))))
def t_are_places (K : Frag) : TS' :=
  (sRet (eAnd (eCall (sp_is_whole K) noW (eCons (eV 1) (eCons (eC (.int 0)) (eCons (eBin rSub (eV 0) (eC (.int 1))) eNil)))) (eAnd (eCall (sp_is_whole K) noW (eCons (eV 2) (eCons (eC (.int 0)) (eCons (eBin rSub (eV 0) (eC (.int 1))) eNil)))) (eBin rNe (eV 1) (eV 2)))))
theorem j_are_places {P : Program} {w : World} {K : Frag} {mg : Str → Option Value} {base : Heap} (T : Tx K mg) (D_is_whole : Def' P w K mg base 1 (He.ga K "is_whole") ["thing", "least", "most"] (sp_is_whole K)) (cdv : Value) (A : Around) (outer : List Env) (s : Shared) (H : Hp) (E : XK) (hr : Room 1 (A.deeper (envOfC "are_places" (defScope s_are_places) s.heap.objs.size (He.ga K "are_places") cdv))) (hg : A.guards = some []) :
    QSs (cxOf (L2.CX P w) P w K mg base n_are_places "are_places" (defScope s_are_places) (He.ga K "are_places") cdv A outer s H E) (defBody s_are_places) (t_are_places K ) :=
  (qss_one (qs_ret (qe_and (qd_call D_is_whole hr hg tk_no (T.glo 0 rfl) (qa_cons (qv 1) (qa_cons qe_int (qa_cons (qe_op o_sub (qv 0) qe_int) qa_nil)))) (qe_and (qd_call D_is_whole hr hg tk_no (T.glo 0 rfl) (qa_cons (qv 2) (qa_cons qe_int (qa_cons (qe_op o_sub (qv 0) qe_int) qa_nil)))) (qe_one (qe_cmp (o_ne hr.units) (qv 1) (qv 2) (nomark _)))))))
def t_is_tie (K : Frag) : TS' :=
  (sSeq (sIf (tOr' (tNot' (tB' (eCall (sp_is_row K) noW (eCons (eV 1) eNil)))) (tOr' (tB' (eBin rNe (eB rLen (eCons (eV 1) eNil)) (eC (.int 3)))) (tNot' (tB' (eCall (sp_are_places K) noW (eCons (eV 0) (eCons (eBin rIx (eV 1) (eC (.int 0))) (eCons (eBin rIx (eV 1) (eC (.int 1))) eNil))))))))
    (sRet (eC (.bl false)))
    sNext)
  (sRet (eAnd (eBin rLt (eBin rIx (eV 1) (eC (.int 0))) (eBin rIx (eV 1) (eC (.int 1)))) (eCall (sp_is_weight K) noW (eCons (eBin rIx (eV 1) (eC (.int 2))) eNil)))))
theorem j_is_tie {P : Program} {w : World} {K : Frag} {mg : Str → Option Value} {base : Heap} (T : Tx K mg) (D_is_row : Def' P w K mg base 1 (He.ga K "is_row") ["thing"] (sp_is_row K)) (D_are_places : Def' P w K mg base 2 (He.ga K "are_places") ["many", "i", "j"] (sp_are_places K)) (D_is_weight : Def' P w K mg base 3 (He.ga K "is_weight") ["thing"] (sp_is_weight K)) (cdv : Value) (A : Around) (outer : List Env) (s : Shared) (H : Hp) (E : XK) (hr : Room 3 (A.deeper (envOfC "is_tie" (defScope s_is_tie) s.heap.objs.size (He.ga K "is_tie") cdv))) (hg : A.guards = some []) :
    QSs (cxOf (L2.CX P w) P w K mg base n_is_tie "is_tie" (defScope s_is_tie) (He.ga K "is_tie") cdv A outer s H E) (defBody s_is_tie) (t_is_tie K ) :=
  (qss_cons (qs_if (QW.pt (qw_or (qt_not (qt_val (qd_call D_is_row hr hg tk_no (T.glo 1 rfl) (qa_cons (qv 1) qa_nil)))) (qw_or (qt_cmp (o_ne hr.units) (qe_B c_len (T.free 43 rfl) bb_len (qa_cons (qv 1) qa_nil)) qe_int (nomark _)) (qw_or1 (qt_not (qt_val (qd_call D_are_places hr hg tk_no (T.glo 6 rfl) (qa_cons (qv 0) (qa_cons (qe_ix (hu_of hr) (qv 1) qe_int) (qa_cons (qe_ix (hu_of hr) (qv 1) qe_int) qa_nil))))))))))
    (qss_one (qs_ret qe_bl))
    qss_nil)
  (qss_one (qs_ret (qe_and (qe_cmp o_lt (qe_ix (hu_of hr) (qv 1) qe_int) (qe_ix (hu_of hr) (qv 1) qe_int) (nomark _)) (qe_one (qd_call D_is_weight hr hg tk_no (T.glo 5 rfl) (qa_cons (qe_ix (hu_of hr) (qv 1) qe_int) qa_nil)))))))
def t_wrong_tie (K : Frag) : TS' :=
  (sSeq (sIf (tNot' (tB' (eCall (sp_is_row K) noW (eCons (eV 1) eNil))))
    (sRet (eC (.int 0)))
    sNext)
  (sSeq (sSet 2 eDic0)
  (sSeq (sFor (iEnum (eCons (eV 1) eNil)) (gTuple 2 (gsCons (gN 3) (gsCons (gN 4) gsNil)))
    (sSeq (sIf (tOr' (tNot' (tB' (eCall (sp_is_tie K) noW (eCons (eV 0) (eCons (eV 4) eNil))))) (tB' (eBin (rIn id) (eTup (eCons (eBin rIx (eV 4) (eC (.int 0))) (eCons (eBin rIx (eV 4) (eC (.int 1))) eNil))) (eV 2))))
      (sRet (eV 3))
      sNext)
    (sPut (eV 2) (eTup (eCons (eBin rIx (eV 4) (eC (.int 0))) (eCons (eBin rIx (eV 4) (eC (.int 1))) eNil))) (eC (.bl true)))))
  (sRet (eC .non)))))
theorem j_wrong_tie {P : Program} {w : World} {K : Frag} {mg : Str → Option Value} {base : Heap} (T : Tx K mg) (D_is_row : Def' P w K mg base 1 (He.ga K "is_row") ["thing"] (sp_is_row K)) (D_is_tie : Def' P w K mg base 4 (He.ga K "is_tie") ["many", "thing"] (sp_is_tie K)) (cdv : Value) (A : Around) (outer : List Env) (s : Shared) (H : Hp) (E : XK) (hr : Room 4 (A.deeper (envOfC "wrong_tie" (defScope s_wrong_tie) s.heap.objs.size (He.ga K "wrong_tie") cdv))) (hg : A.guards = some []) :
    QSs (cxOf (L2.CX P w) P w K mg base n_wrong_tie "wrong_tie" (defScope s_wrong_tie) (He.ga K "wrong_tie") cdv A outer s H E) (defBody s_wrong_tie) (t_wrong_tie K ) :=
  (qss_cons (qs_if (qt_not (qt_val (qd_call D_is_row hr hg tk_no (T.glo 1 rfl) (qa_cons (qv 1) qa_nil))))
    (qss_one (qs_ret qe_int))
    qss_nil)
  (qss_cons (qs_set (i := 2) sc_wrong_tie.nd qe_dic0)
  (qss_cons (qs_for (passes_of rfl) rfl (qi_enum (T.free 37 rfl) (qa_cons (qv 1) qa_nil)) (qg_tup rfl (qgs_cons (qg_name (i := 3) sc_wrong_tie.nd) (qgs_cons (qg_name (i := 4) sc_wrong_tie.nd) qgs_nil)))
    (qss_cons (qs_if (QW.pt (qw_or (qt_not (qt_val (qd_call D_is_tie hr hg tk_no (T.glo 7 rfl) (qa_cons (qv 0) (qa_cons (qv 4) qa_nil))))) (qw_or1 (qt_cmp (o_in (room65 hr)) (qe_tup (qa_cons (qe_ix (hu_of hr) (qv 4) qe_int) (qa_cons (qe_ix (hu_of hr) (qv 4) qe_int) qa_nil))) (qv 2) (by rfl)))))
      (qss_one (qs_ret (qv 3)))
      qss_nil)
    (qss_one (qs_put (hu_of hr) (qv 2) (qe_tup (qa_cons (qe_ix (hu_of hr) (qv 4) qe_int) (qa_cons (qe_ix (hu_of hr) (qv 4) qe_int) qa_nil))) qe_bl))))
  (qss_one (qs_ret qe_non)))))
def t_weights_in (K : Frag) : TS' :=
  (sRet (eB rDict (eCons (eLc (iSeq (eV 0)) (gTuple 3 (gsCons (gN 1) (gsCons (gN 2) (gsCons (gN 3) gsNil)))) tYes' (eTup (eCons (eTup (eCons (eV 1) (eCons (eV 2) eNil))) (eCons (eCall (sp_as_tuples 1 K) noW (eCons (eV 3) eNil)) eNil))) [1, 2, 3]) eNil)))
theorem j_weights_in {P : Program} {w : World} {K : Frag} {mg : Str → Option Value} {base : Heap} (T : Tx K mg) (D_as_tuples : Def' P w K mg base 3 (He.ga K "as_tuples") ["thing"] (sp_as_tuples 1 K)) (cdv : Value) (A : Around) (outer : List Env) (s : Shared) (H : Hp) (E : XK) (hr : Room 3 (A.deeper (envOfC "weights_in" (defScope s_weights_in) s.heap.objs.size (He.ga K "weights_in") cdv))) (hg : A.guards = some []) :
    QSs (cxOf (L2.CX P w) P w K mg base n_weights_in "weights_in" (defScope s_weights_in) (He.ga K "weights_in") cdv A outer s H E) (defBody s_weights_in) (t_weights_in K ) :=
  (qss_one (qs_ret (qe_T (c_dict rfl hr.units) (T.free 38 rfl) bb_dict (qa_cons (qe_lc rfl sc_weights_in.nd (qi_seq (qv 0)) (own := [("i", 1), ("j", 2), ("weight", 3)]) (blk_ok (by kernel_rfl)) (fun _ _ _ _ _ => (qv_tup rfl (qvs_cons (qv_name (i := 1) sc_weights_in.nd) (qvs_cons (qv_name (i := 2) sc_weights_in.nd) (qvs_cons (qv_name (i := 3) sc_weights_in.nd) qvs_nil))))) (fun _ _ _ _ _ => qts_nil) (fun _ _ _ _ _ => (qe_tup (qa_cons (qe_tup (qa_cons (qv 1) (qa_cons (qv 2) qa_nil))) (qa_cons (qd_call D_as_tuples hr hg tk_no (T.glo 2 rfl) (qa_cons (qv 3) qa_nil)) qa_nil))))) qa_nil))))
def t_put_weights (K : Frag) : TS' :=
  (sSeq (sSet 2 (eLc (iSeq (eB rSorted (eCons (eV 1) eNil))) (gN 3) (tB' (eBin rNe (eBin rIx (eV 1) (eV 3)) (eC (.tup (([0, 1] : List Int).map U.int))))) (eTup (eCons (eV 3) (eCons (eBin rIx (eV 1) (eV 3)) eNil))) [3]))
  (sSeq (sFld K (eV 0) (eB rDict (eCons (eV 2) eNil)) "weights")
  (sFld K (eV 0) (eB rTuple (eCons (eLc (iSeq (eV 2)) (gTuple 2 (gsCons (gN 3) (gsCons (gN 4) gsNil))) tYes' (eTup (eCons (eBin rIx (eV 3) (eC (.int 0))) (eCons (eBin rIx (eV 3) (eC (.int 1))) (eCons (eV 4) eNil)))) [3, 4]) eNil)) "ties")))
theorem j_put_weights {P : Program} {w : World} {K : Frag} {mg : Str → Option Value} {base : Heap} (T : Tx K mg) (cdv : Value) (A : Around) (outer : List Env) (s : Shared) (H : Hp) (E : XK) (hr : Room 0 (A.deeper (envOfC "put_weights" (defScope s_put_weights) s.heap.objs.size (He.ga K "put_weights") cdv))) (hg : A.guards = some []) :
    QSs (cxOf (L2.CX P w) P w K mg base n_put_weights "put_weights" (defScope s_put_weights) (He.ga K "put_weights") cdv A outer s H E) (defBody s_put_weights) (t_put_weights K ) :=
  (qss_cons (qs_setLc (i := 2) rfl sc_put_weights.nd (qi_seq (qe_B (c_sorted rfl hr.units) (T.free 45 rfl) bb_sorted (qa_cons (qv 1) qa_nil))) (own := [("places", 3)]) (blk_ok (by kernel_rfl)) (fun _ _ _ _ _ => (qv_name (i := 3) sc_put_weights.nd)) (fun _ _ _ _ _ => (qts_one (qt_cmp (o_ne hr.units) (qe_ix (hu_of hr) (qv 1) (qv 3)) (qe_gtup (T.glo 50 rfl) (rep_tupB (ns := [0, 1]) T.ex_NOUGHT)) (nomark _)))) (fun _ _ _ _ _ => (qe_tup (qa_cons (qv 3) (qa_cons (qe_ix (hu_of hr) (qv 1) (qv 3)) qa_nil)))))
  (qss_cons (qs_fld (qv 0) (qe_T (c_dict rfl hr.units) (T.free 38 rfl) bb_dict (qa_cons (qv 2) qa_nil)))
  (qss_one (qs_fld (qv 0) (qe_T c_tuple (T.free 36 rfl) bb_tuple (qa_cons (qe_lc rfl sc_put_weights.nd (qi_seq (qv 2)) (own := [("places", 3), ("weight", 4)]) (blk_ok (by kernel_rfl)) (fun _ _ _ _ _ => (qv_tup rfl (qvs_cons (qv_name (i := 3) sc_put_weights.nd) (qvs_cons (qv_name (i := 4) sc_put_weights.nd) qvs_nil)))) (fun _ _ _ _ _ => qts_nil) (fun _ _ _ _ _ => (qe_tup (qa_cons (qe_ix (hu_of hr) (qv 3) qe_int) (qa_cons (qe_ix (hu_of hr) (qv 3) qe_int) (qa_cons (qv 4) qa_nil)))))) qa_nil))))))
def t_number_in (K : Frag) : TS' :=
  (sSeq (sIf (tOr' (tNot' (tB' (eChain rLe rLe (eC (.int 1)) (eB rLen (eCons (eV 0) eNil)) (eV 1)))) (tB' (eBin rNe (eLc (iSeq (eV 0)) (gN 2) (tB' (eBin (rIn not) (eV 2) (eC (.str "0123456789")))) (eV 2) [2]) (eLst eNil))))
    (sRet (eC .non))
    sNext)
  (sSeq (sIf (tAnd' (tB' (eBin rGt (eB rLen (eCons (eV 0) eNil)) (eC (.int 1)))) (tB' (eBin rEq (eBin rIx (eV 0) (eC (.int 0))) (eC (.str "0")))))
    (sRet (eC .non))
    sNext)
  (sRet (eB rIntC (eCons (eV 0) eNil)))))
theorem j_number_in {P : Program} {w : World} {K : Frag} {mg : Str → Option Value} {base : Heap} (T : Tx K mg) (cdv : Value) (A : Around) (outer : List Env) (s : Shared) (H : Hp) (E : XK) (hr : Room 0 (A.deeper (envOfC "number_in" (defScope s_number_in) s.heap.objs.size (He.ga K "number_in") cdv))) (hg : A.guards = some []) :
    QSs (cxOf (L2.CX P w) P w K mg base n_number_in "number_in" (defScope s_number_in) (He.ga K "number_in") cdv A outer s H E) (defBody s_number_in) (t_number_in K ) :=
  (qss_cons (qs_if (QW.pt (qw_or (qt_not (qt_chain o_le o_le qe_int (qe_B c_len (T.free 43 rfl) bb_len (qa_cons (qv 0) qa_nil)) (qv 1))) (qw_or1 (qt_cmp (o_ne hr.units) (qe_lc rfl sc_number_in.nd (qi_seq (qv 0)) (own := [("sign", 2)]) (blk_ok (by kernel_rfl)) (fun _ _ _ _ _ => (qv_name (i := 2) sc_number_in.nd)) (fun _ _ _ _ _ => (qts_one (qt_cmp (o_notIn (room65 hr)) (qv 2) (qe_gstr (T.str 52 rfl)) (by rfl)))) (fun _ _ _ _ _ => (qv 2))) (qe_lst qa_nil) (nomark _)))))
    (qss_one (qs_ret qe_non))
    qss_nil)
  (qss_cons (qs_if (QW.pt (qw_and (qt_cmp o_gt (qe_B c_len (T.free 43 rfl) bb_len (qa_cons (qv 0) qa_nil)) qe_int (nomark _)) (qw_and1 (qt_cmp (o_eq hr.units) (qe_ix (hu_of hr) (qv 0) qe_int) qe_str (nomark _)))))
    (qss_one (qs_ret qe_non))
    qss_nil)
  (qss_one (qs_ret (qe_T c_int (T.free 39 rfl) bb_int (qa_cons (qv 0) qa_nil))))))
def t_amount_in (K : Frag) : TS' :=
  (sSeq (sSet 1 (eM isS rSplit (eV 0) (eCons (eC (.str "/")) eNil)))
  (sSeq (sSet 2 (eLc (iSeq (eV 1)) (gN 3) tYes' (eCall (sp_number_in K) noW (eCons (eV 3) (eCons (eC (.int 30)) eNil))) [3]))
  (sSeq (sIf (tOr' (tB' (eBin rGt (eB rLen (eCons (eV 1) eNil)) (eC (.int 2)))) (tB' (eBin (rIn id) (eC .non) (eV 2))))
    (sRet (eC .non))
    sNext)
  (sSeq (sIf (tB' (eBin rEq (eB rLen (eCons (eV 1) eNil)) (eC (.int 1))))
    (sRet (eTup (eCons (eBin rIx (eV 2) (eC (.int 0))) (eCons (eC (.int 1)) eNil))))
    sNext)
  (sSeq (sAsg (eV 2) (gTuple 2 (gsCons (gN 4) (gsCons (gN 5) gsNil))))
  (sSeq (sIf (tOr' (tB' (eBin rLt (eV 5) (eC (.int 2)))) (tB' (eBin rNe (eCall (sp_divisor K) noW (eCons (eV 4) (eCons (eV 5) eNil))) (eC (.int 1)))))
    (sRet (eC .non))
    sNext)
  (sRet (eTup (eCons (eV 4) (eCons (eV 5) eNil))))))))))
theorem j_amount_in {P : Program} {w : World} {K : Frag} {mg : Str → Option Value} {base : Heap} (T : Tx K mg) (D_number_in : Def' P w K mg base 1 (He.ga K "number_in") ["word", "most"] (sp_number_in K)) (D_divisor : Def' P w K mg base 1 (He.ga K "divisor") ["one", "other"] (sp_divisor K)) (cdv : Value) (A : Around) (outer : List Env) (s : Shared) (H : Hp) (E : XK) (hr : Room 1 (A.deeper (envOfC "amount_in" (defScope s_amount_in) s.heap.objs.size (He.ga K "amount_in") cdv))) (hg : A.guards = some []) :
    QSs (cxOf (L2.CX P w) P w K mg base n_amount_in "amount_in" (defScope s_amount_in) (He.ga K "amount_in") cdv A outer s H E) (defBody s_amount_in) (t_amount_in K ) :=
  (qss_cons (qs_set (i := 1) sc_amount_in.nd (qm_split (qv 0) qe_str))
  (qss_cons (qs_setLc (i := 2) rfl sc_amount_in.nd (qi_seq (qv 1)) (own := [("part", 3)]) (blk_ok (by kernel_rfl)) (fun _ _ _ _ _ => (qv_name (i := 3) sc_amount_in.nd)) (fun _ _ _ _ _ => qts_nil) (fun _ _ _ _ _ => (qd_call D_number_in hr hg tk_no (T.glo 11 rfl) (qa_cons (qv 3) (qa_cons (qe_gint (T.int 53 rfl)) qa_nil)))))
  (qss_cons (qs_if (QW.pt (qw_or (qt_cmp o_gt (qe_B c_len (T.free 43 rfl) bb_len (qa_cons (qv 1) qa_nil)) qe_int (nomark _)) (qw_or1 (qt_cmp (o_in (room65 hr)) qe_non (qv 2) (by rfl)))))
    (qss_one (qs_ret qe_non))
    qss_nil)
  (qss_cons (qs_if (qt_cmp (o_eq hr.units) (qe_B c_len (T.free 43 rfl) bb_len (qa_cons (qv 1) qa_nil)) qe_int (nomark _))
    (qss_one (qs_ret (qe_tup (qa_cons (qe_ix (hu_of hr) (qv 2) qe_int) (qa_cons qe_int qa_nil)))))
    qss_nil)
  (qss_cons (qs_asg (qv 2) (qg_tup rfl (qgs_cons (qg_name (i := 4) sc_amount_in.nd) (qgs_cons (qg_name (i := 5) sc_amount_in.nd) qgs_nil))))
  (qss_cons (qs_if (QW.pt (qw_or (qt_cmp o_lt (qv 5) qe_int (nomark _)) (qw_or1 (qt_cmp (o_ne hr.units) (qd_call D_divisor hr hg tk_no (T.glo 3 rfl) (qa_cons (qv 4) (qa_cons (qv 5) qa_nil))) qe_int (nomark _)))))
    (qss_one (qs_ret qe_non))
    qss_nil)
  (qss_one (qs_ret (qe_tup (qa_cons (qv 4) (qa_cons (qv 5) qa_nil)))))))))))
def t_lines_in (K : Frag) : TS' :=
  (sSeq (sSet 1 (eLst eNil))
  (sSeq (sFor (iEnum (eCons (eM isS rSplit (eV 0) (eCons (eC (.str "\n")) eNil)) eNil)) (gTuple 2 (gsCons (gN 2) (gsCons (gN 3) gsNil)))
    (sSeq (sSet 4 (eLc (iSeq (eM isS rSplit (eV 3) (eCons (eC (.str " ")) eNil))) (gN 5) (tB' (eBin rNe (eV 5) (eC (.str "")))) (eV 5) [5]))
    (sIf (tB' (eBin rNe (eV 4) (eLst eNil)))
      (sExpr (eM isML rAppend (eV 1) (eCons (eTup (eCons (eV 2) (eCons (eV 4) eNil))) eNil)))
      sNext)))
  (sRet (eV 1))))
theorem j_lines_in {P : Program} {w : World} {K : Frag} {mg : Str → Option Value} {base : Heap} (T : Tx K mg) (cdv : Value) (A : Around) (outer : List Env) (s : Shared) (H : Hp) (E : XK) (hr : Room 0 (A.deeper (envOfC "lines_in" (defScope s_lines_in) s.heap.objs.size (He.ga K "lines_in") cdv))) (hg : A.guards = some []) :
    QSs (cxOf (L2.CX P w) P w K mg base n_lines_in "lines_in" (defScope s_lines_in) (He.ga K "lines_in") cdv A outer s H E) (defBody s_lines_in) (t_lines_in K ) :=
  (qss_cons (qs_set (i := 1) sc_lines_in.nd (qe_lst qa_nil))
  (qss_cons (qs_for (passes_of rfl) rfl (qi_enum (T.free 37 rfl) (qa_cons (qm_split (qv 0) qe_str) qa_nil)) (qg_tup rfl (qgs_cons (qg_name (i := 2) sc_lines_in.nd) (qgs_cons (qg_name (i := 3) sc_lines_in.nd) qgs_nil)))
    (qss_cons (qs_setLc (i := 4) rfl sc_lines_in.nd (qi_seq (qm_split (qv 3) qe_str)) (own := [("word", 5)]) (blk_ok (by kernel_rfl)) (fun _ _ _ _ _ => (qv_name (i := 5) sc_lines_in.nd)) (fun _ _ _ _ _ => (qts_one (qt_cmp (o_ne hr.units) (qv 5) qe_str (nomark _)))) (fun _ _ _ _ _ => (qv 5)))
    (qss_one (qs_if (qt_cmp (o_ne hr.units) (qv 4) (qe_lst qa_nil) (nomark _))
      (qss_one (qs_expr (qm_append (qv 1) (qe_tup (qa_cons (qv 2) (qa_cons (qv 4) qa_nil))))))
      qss_nil))))
  (qss_one (qs_ret (qv 1)))))
def t_row_in (K : Frag) : TS' :=
  (sSeq (sIf (tOr' (tB' (eBin rNe (eB rLen (eCons (eV 0) eNil)) (eC (.int 4)))) (tB' (eBin rNe (eBin rIx (eV 0) (eC (.int 0))) (eV 1))))
    (sRet (eC .non))
    sNext)
  (sSeq (sSet 2 (eCall (sp_number_in K) noW (eCons (eBin rIx (eV 0) (eC (.int 1))) (eCons (eC (.int 2)) eNil))))
  (sSeq (sSet 3 (eCall (sp_number_in K) noW (eCons (eBin rIx (eV 0) (eC (.int 2))) (eCons (eC (.int 2)) eNil))))
  (sSeq (sSet 4 (eCall (sp_amount_in K) noW (eCons (eBin rIx (eV 0) (eC (.int 3))) eNil)))
  (sSeq (sIf (tOr' (tB' (eBin (rIsN id) (eV 2) (eC .non))) (tOr' (tB' (eBin (rIsN id) (eV 3) (eC .non))) (tB' (eBin (rIsN id) (eV 4) (eC .non)))))
    (sRet (eC .non))
    sNext)
  (sRet (eTup (eCons (eV 2) (eCons (eV 3) (eCons (eV 4) eNil))))))))))
theorem j_row_in {P : Program} {w : World} {K : Frag} {mg : Str → Option Value} {base : Heap} (T : Tx K mg) (D_number_in : Def' P w K mg base 1 (He.ga K "number_in") ["word", "most"] (sp_number_in K)) (D_amount_in : Def' P w K mg base 2 (He.ga K "amount_in") ["word"] (sp_amount_in K)) (cdv : Value) (A : Around) (outer : List Env) (s : Shared) (H : Hp) (E : XK) (hr : Room 2 (A.deeper (envOfC "row_in" (defScope s_row_in) s.heap.objs.size (He.ga K "row_in") cdv))) (hg : A.guards = some []) :
    QSs (cxOf (L2.CX P w) P w K mg base n_row_in "row_in" (defScope s_row_in) (He.ga K "row_in") cdv A outer s H E) (defBody s_row_in) (t_row_in K ) :=
  (qss_cons (qs_if (QW.pt (qw_or (qt_cmp (o_ne hr.units) (qe_B c_len (T.free 43 rfl) bb_len (qa_cons (qv 0) qa_nil)) qe_int (nomark _)) (qw_or1 (qt_cmp (o_ne hr.units) (qe_ix (hu_of hr) (qv 0) qe_int) (qv 1) (nomark _)))))
    (qss_one (qs_ret qe_non))
    qss_nil)
  (qss_cons (qs_set (i := 2) sc_row_in.nd (qd_call D_number_in hr hg tk_no (T.glo 11 rfl) (qa_cons (qe_ix (hu_of hr) (qv 0) qe_int) (qa_cons (qe_gint (T.int 54 rfl)) qa_nil))))
  (qss_cons (qs_set (i := 3) sc_row_in.nd (qd_call D_number_in hr hg tk_no (T.glo 11 rfl) (qa_cons (qe_ix (hu_of hr) (qv 0) qe_int) (qa_cons (qe_gint (T.int 54 rfl)) qa_nil))))
  (qss_cons (qs_set (i := 4) sc_row_in.nd (qd_call D_amount_in hr hg tk_no (T.glo 12 rfl) (qa_cons (qe_ix (hu_of hr) (qv 0) qe_int) qa_nil)))
  (qss_cons (qs_if (QW.pt (qw_or (qt_cmp o_isN (qv 2) qe_non (nomark _)) (qw_or (qt_cmp o_isN (qv 3) qe_non (nomark _)) (qw_or1 (qt_cmp o_isN (qv 4) qe_non (nomark _))))))
    (qss_one (qs_ret qe_non))
    qss_nil)
  (qss_one (qs_ret (qe_tup (qa_cons (qv 2) (qa_cons (qv 3) (qa_cons (qv 4) qa_nil)))))))))))
def t_many_in (K : Frag) : TS' :=
  (sSeq (sIf (tOr' (tB' (eBin rNe (eB rLen (eCons (eV 0) eNil)) (eC (.int 2)))) (tB' (eBin rNe (eBin rIx (eV 0) (eC (.int 0))) (eC (.str "places")))))
    (sRet (eC .non))
    sNext)
  (sSeq (sSet 1 (eCall (sp_number_in K) noW (eCons (eBin rIx (eV 0) (eC (.int 1))) (eCons (eC (.int 2)) eNil))))
  (sSeq (sIf (tOr' (tB' (eBin (rIsN id) (eV 1) (eC .non))) (tNot' (tB' (eChain rLe rLe (eC (.int 1)) (eV 1) (eC (.int 40))))))
    (sRet (eC .non))
    sNext)
  (sRet (eV 1)))))
theorem j_many_in {P : Program} {w : World} {K : Frag} {mg : Str → Option Value} {base : Heap} (T : Tx K mg) (D_number_in : Def' P w K mg base 1 (He.ga K "number_in") ["word", "most"] (sp_number_in K)) (cdv : Value) (A : Around) (outer : List Env) (s : Shared) (H : Hp) (E : XK) (hr : Room 1 (A.deeper (envOfC "many_in" (defScope s_many_in) s.heap.objs.size (He.ga K "many_in") cdv))) (hg : A.guards = some []) :
    QSs (cxOf (L2.CX P w) P w K mg base n_many_in "many_in" (defScope s_many_in) (He.ga K "many_in") cdv A outer s H E) (defBody s_many_in) (t_many_in K ) :=
  (qss_cons (qs_if (QW.pt (qw_or (qt_cmp (o_ne hr.units) (qe_B c_len (T.free 43 rfl) bb_len (qa_cons (qv 0) qa_nil)) qe_int (nomark _)) (qw_or1 (qt_cmp (o_ne hr.units) (qe_ix (hu_of hr) (qv 0) qe_int) qe_str (nomark _)))))
    (qss_one (qs_ret qe_non))
    qss_nil)
  (qss_cons (qs_set (i := 1) sc_many_in.nd (qd_call D_number_in hr hg tk_no (T.glo 11 rfl) (qa_cons (qe_ix (hu_of hr) (qv 0) qe_int) (qa_cons (qe_gint (T.int 54 rfl)) qa_nil))))
  (qss_cons (qs_if (QW.pt (qw_or (qt_cmp o_isN (qv 1) qe_non (nomark _)) (qw_or1 (qt_not (qt_chain o_le o_le qe_int (qv 1) (qe_gint (T.int 51 rfl)))))))
    (qss_one (qs_ret qe_non))
    qss_nil)
  (qss_one (qs_ret (qv 1))))))
def t_read_web (K : Frag) (e : XK') : TS' :=
  (sSeq (sSet 1 (eCall (sp_lines_in K) noW (eCons (eV 0) eNil)))
  (sSeq (sIf (tB' (eBin rEq (eV 1) (eLst eNil)))
    (sRaiseI (He.ga K "NoLine") "at" (wX e) (eBin rSub (eB rLen (eCons (eM isS rSplit (eV 0) (eCons (eC (.str "\n")) eNil)) eNil)) (eC (.int 1))))
    sNext)
  (sSeq (sSet 2 (eCall (sp_many_in K) noW (eCons (eBin rIx (eBin rIx (eV 1) (eC (.int 0))) (eC (.int 1))) eNil)))
  (sSeq (sIf (tB' (eBin (rIsN id) (eV 2) (eC .non)))
    (sRaiseI (He.ga K "NoLine") "at" (wX e) (eBin rIx (eBin rIx (eV 1) (eC (.int 0))) (eC (.int 0))))
    sNext)
  (sSeq (sSet 3 (eLst eNil))
  (sSeq (sSet 4 eDic0)
  (sSeq (sFor (iSeq (eSl (eV 1) (oPart (eC (.int 1))) oNo)) (gTuple 2 (gsCons (gN 5) (gsCons (gN 6) gsNil)))
    (sSeq (sSet 7 (eCall (sp_row_in K) noW (eCons (eV 6) (eCons (eC (.str "tie")) eNil))))
    (sSeq (sIf (tOr' (tB' (eBin (rIsN id) (eV 7) (eC .non))) (tOr' (tNot' (tB' (eCall (sp_is_tie K) noW (eCons (eV 2) (eCons (eV 7) eNil))))) (tB' (eBin (rIn id) (eSl (eV 7) oNo (oPart (eC (.int 2)))) (eV 4)))))
      (sRaiseI (He.ga K "NoLine") "at" (wX e) (eV 5))
      sNext)
    (sSeq (sPut (eV 4) (eSl (eV 7) oNo (oPart (eC (.int 2)))) (eC (.bl true)))
    (sExpr (eM isML rAppend (eV 3) (eCons (eV 7) eNil)))))))
  (sRet (eMake (He.ga K "Web") (sp_Web_init K) noW (eCons (eV 2) (eCons (eV 3) eNil)))))))))))
theorem j_read_web (e : XK') {P : Program} {w : World} {K : Frag} {mg : Str → Option Value} {base : Heap} (T : Tx K mg) (D_lines_in : Def' P w K mg base 1 (He.ga K "lines_in") ["text"] (sp_lines_in K)) (D_many_in : Def' P w K mg base 2 (He.ga K "many_in") ["words"] (sp_many_in K)) (D_row_in : Def' P w K mg base 3 (He.ga K "row_in") ["words", "word"] (sp_row_in K)) (D_is_tie : Def' P w K mg base 4 (He.ga K "is_tie") ["many", "thing"] (sp_is_tie K)) (D_Web_init : Def' P w K mg base 6 (He.ma K (He.ga K "Web") "__init__") ["self", "many", "ties"] (sp_Web_init K)) (cdv : Value) (A : Around) (outer : List Env) (s : Shared) (H : Hp) (E : XK) (hr : Room 7 (A.deeper (envOfC "read_web" (defScope s_read_web) s.heap.objs.size (He.ga K "read_web") cdv))) (hg : A.guards = some []) (tk : Takes (cxOf (L2.CX P w) P w K mg base n_read_web "read_web" (defScope s_read_web) (He.ga K "read_web") cdv A outer s H E) (lowW K (wX e))) :
    QSs (cxOf (L2.CX P w) P w K mg base n_read_web "read_web" (defScope s_read_web) (He.ga K "read_web") cdv A outer s H E) (defBody s_read_web) (t_read_web K e) :=
  (qss_cons (qs_set (i := 1) sc_read_web.nd (qd_call D_lines_in hr hg tk_no (T.glo 13 rfl) (qa_cons (qv 0) qa_nil)))
  (qss_cons (qs_if (qt_cmp (o_eq hr.units) (qv 1) (qe_lst qa_nil) (nomark _))
    (qss_one (qs_raiseI rfl tk (xi_NoLine T) (T.glo 58 rfl) (qe_op o_sub (qe_B c_len (T.free 43 rfl) bb_len (qa_cons (qm_split (qv 0) qe_str) qa_nil)) qe_int) hr))
    qss_nil)
  (qss_cons (qs_set (i := 2) sc_read_web.nd (qd_call D_many_in hr hg tk_no (T.glo 15 rfl) (qa_cons (qe_ix (hu_of hr) (qe_ix (hu_of hr) (qv 1) qe_int) qe_int) qa_nil)))
  (qss_cons (qs_if (qt_cmp o_isN (qv 2) qe_non (nomark _))
    (qss_one (qs_raiseI rfl tk (xi_NoLine T) (T.glo 58 rfl) (qe_ix (hu_of hr) (qe_ix (hu_of hr) (qv 1) qe_int) qe_int) hr))
    qss_nil)
  (qss_cons (qs_set (i := 3) sc_read_web.nd (qe_lst qa_nil))
  (qss_cons (qs_set (i := 4) sc_read_web.nd qe_dic0)
  (qss_cons (qs_for (passes_of rfl) rfl (qi_seq (qe_slice (qv 1) (qo_some qe_int) qo_none)) (qg_tup rfl (qgs_cons (qg_name (i := 5) sc_read_web.nd) (qgs_cons (qg_name (i := 6) sc_read_web.nd) qgs_nil)))
    (qss_cons (qs_set (i := 7) sc_read_web.nd (qd_call D_row_in hr hg tk_no (T.glo 14 rfl) (qa_cons (qv 6) (qa_cons qe_str qa_nil))))
    (qss_cons (qs_if (QW.pt (qw_or (qt_cmp o_isN (qv 7) qe_non (nomark _)) (qw_or (qt_not (qt_val (qd_call D_is_tie hr hg tk_no (T.glo 7 rfl) (qa_cons (qv 2) (qa_cons (qv 7) qa_nil))))) (qw_or1 (qt_cmp (o_in (room65 hr)) (qe_slice (qv 7) qo_none (qo_some qe_int)) (qv 4) (by rfl))))))
      (qss_one (qs_raiseI rfl tk (xi_NoLine T) (T.glo 58 rfl) (qv 5) hr))
      qss_nil)
    (qss_cons (qs_put (hu_of hr) (qv 4) (qe_slice (qv 7) qo_none (qo_some qe_int)) qe_bl)
    (qss_one (qs_expr (qm_append (qv 3) (qv 7))))))))
  (qss_one (qs_ret (qd_make D_Web_init hr hg tk_no (T.glo 59 rfl) (T.mkr 64 rfl) (qa_cons (qv 2) (qa_cons (qv 3) qa_nil))))))))))))
def t_rows_in (K : Frag) (e : XK') : TS' :=
  (sSeq (sSet 2 (eLst eNil))
  (sSeq (sFor (iSeq (eCall (sp_lines_in K) noW (eCons (eV 0) eNil))) (gTuple 2 (gsCons (gN 3) (gsCons (gN 4) gsNil)))
    (sSeq (sSet 5 (eCall (sp_row_in K) noW (eCons (eV 4) (eCons (eV 1) eNil))))
    (sSeq (sIf (tB' (eBin (rIsN id) (eV 5) (eC .non)))
      (sRaiseI (He.ga K "NoLine") "at" (wX e) (eV 3))
      sNext)
    (sExpr (eM isML rAppend (eV 2) (eCons (eV 5) eNil))))))
  (sRet (eB rTuple (eCons (eV 2) eNil)))))
theorem j_rows_in (e : XK') {P : Program} {w : World} {K : Frag} {mg : Str → Option Value} {base : Heap} (T : Tx K mg) (D_lines_in : Def' P w K mg base 1 (He.ga K "lines_in") ["text"] (sp_lines_in K)) (D_row_in : Def' P w K mg base 3 (He.ga K "row_in") ["words", "word"] (sp_row_in K)) (cdv : Value) (A : Around) (outer : List Env) (s : Shared) (H : Hp) (E : XK) (hr : Room 3 (A.deeper (envOfC "rows_in" (defScope s_rows_in) s.heap.objs.size (He.ga K "rows_in") cdv))) (hg : A.guards = some []) (tk : Takes (cxOf (L2.CX P w) P w K mg base n_rows_in "rows_in" (defScope s_rows_in) (He.ga K "rows_in") cdv A outer s H E) (lowW K (wX e))) :
    QSs (cxOf (L2.CX P w) P w K mg base n_rows_in "rows_in" (defScope s_rows_in) (He.ga K "rows_in") cdv A outer s H E) (defBody s_rows_in) (t_rows_in K e) :=
  (qss_cons (qs_set (i := 2) sc_rows_in.nd (qe_lst qa_nil))
  (qss_cons (qs_for (passes_of rfl) rfl (qi_seq (qd_call D_lines_in hr hg tk_no (T.glo 13 rfl) (qa_cons (qv 0) qa_nil))) (qg_tup rfl (qgs_cons (qg_name (i := 3) sc_rows_in.nd) (qgs_cons (qg_name (i := 4) sc_rows_in.nd) qgs_nil)))
    (qss_cons (qs_set (i := 5) sc_rows_in.nd (qd_call D_row_in hr hg tk_no (T.glo 14 rfl) (qa_cons (qv 4) (qa_cons (qv 1) qa_nil))))
    (qss_cons (qs_if (qt_cmp o_isN (qv 5) qe_non (nomark _))
      (qss_one (qs_raiseI rfl tk (xi_NoLine T) (T.glo 58 rfl) (qv 3) hr))
      qss_nil)
    (qss_one (qs_expr (qm_append (qv 2) (qv 5)))))))
  (qss_one (qs_ret (qe_T c_tuple (T.free 36 rfl) bb_tuple (qa_cons (qv 2) qa_nil))))))
def t_read_tree (K : Frag) (e : XK') : TS' :=
  (sRet (eCall (sp_rows_in K) (wX e) (eCons (eV 0) (eCons (eC (.str "branch")) eNil))))
theorem j_read_tree (e : XK') {P : Program} {w : World} {K : Frag} {mg : Str → Option Value} {base : Heap} (T : Tx K mg) (D_rows_in : Def' P w K mg base 4 (He.ga K "rows_in") ["text", "word"] (sp_rows_in K)) (cdv : Value) (A : Around) (outer : List Env) (s : Shared) (H : Hp) (E : XK) (hr : Room 4 (A.deeper (envOfC "read_tree" (defScope s_read_tree) s.heap.objs.size (He.ga K "read_tree") cdv))) (hg : A.guards = some []) (tk : Takes (cxOf (L2.CX P w) P w K mg base n_read_tree "read_tree" (defScope s_read_tree) (He.ga K "read_tree") cdv A outer s H E) (lowW K (wX e))) :
    QSs (cxOf (L2.CX P w) P w K mg base n_read_tree "read_tree" (defScope s_read_tree) (He.ga K "read_tree") cdv A outer s H E) (defBody s_read_tree) (t_read_tree K e) :=
  (qss_one (qs_ret (qd_call D_rows_in hr hg tk (T.glo 17 rfl) (qa_cons (qv 0) (qa_cons qe_str qa_nil)))))
def t_read_flow (K : Frag) (e : XK') : TS' :=
  (sRet (eCall (sp_rows_in K) (wX e) (eCons (eV 0) (eCons (eC (.str "flow")) eNil))))
theorem j_read_flow (e : XK') {P : Program} {w : World} {K : Frag} {mg : Str → Option Value} {base : Heap} (T : Tx K mg) (D_rows_in : Def' P w K mg base 4 (He.ga K "rows_in") ["text", "word"] (sp_rows_in K)) (cdv : Value) (A : Around) (outer : List Env) (s : Shared) (H : Hp) (E : XK) (hr : Room 4 (A.deeper (envOfC "read_flow" (defScope s_read_flow) s.heap.objs.size (He.ga K "read_flow") cdv))) (hg : A.guards = some []) (tk : Takes (cxOf (L2.CX P w) P w K mg base n_read_flow "read_flow" (defScope s_read_flow) (He.ga K "read_flow") cdv A outer s H E) (lowW K (wX e))) :
    QSs (cxOf (L2.CX P w) P w K mg base n_read_flow "read_flow" (defScope s_read_flow) (He.ga K "read_flow") cdv A outer s H E) (defBody s_read_flow) (t_read_flow K e) :=
  (qss_one (qs_ret (qd_call D_rows_in hr hg tk (T.glo 17 rfl) (qa_cons (qv 0) (qa_cons qe_str qa_nil)))))
def t_read_sides (K : Frag) (e : XK') : TS' :=
  (sSeq (sSet 1 (eLst eNil))
  (sSeq (sFor (iSeq (eCall (sp_lines_in K) noW (eCons (eV 0) eNil))) (gTuple 2 (gsCons (gN 2) (gsCons (gN 3) gsNil)))
    (sSeq (sSet 4 (eLc (iSeq (eSl (eV 3) (oPart (eC (.int 1))) oNo)) (gN 5) tYes' (eCall (sp_number_in K) noW (eCons (eV 5) (eCons (eC (.int 2)) eNil))) [5]))
    (sSeq (sIf (tOr' (tB' (eBin rNe (eBin rIx (eV 3) (eC (.int 0))) (eC (.str "side")))) (tOr' (tB' (eBin rEq (eV 4) (eLst eNil))) (tB' (eBin (rIn id) (eC .non) (eV 4)))))
      (sRaiseI (He.ga K "NoLine") "at" (wX e) (eV 2))
      sNext)
    (sExpr (eM isML rAppend (eV 1) (eCons (eB rTuple (eCons (eV 4) eNil)) eNil))))))
  (sRet (eB rTuple (eCons (eV 1) eNil)))))
theorem j_read_sides (e : XK') {P : Program} {w : World} {K : Frag} {mg : Str → Option Value} {base : Heap} (T : Tx K mg) (D_lines_in : Def' P w K mg base 1 (He.ga K "lines_in") ["text"] (sp_lines_in K)) (D_number_in : Def' P w K mg base 1 (He.ga K "number_in") ["word", "most"] (sp_number_in K)) (cdv : Value) (A : Around) (outer : List Env) (s : Shared) (H : Hp) (E : XK) (hr : Room 2 (A.deeper (envOfC "read_sides" (defScope s_read_sides) s.heap.objs.size (He.ga K "read_sides") cdv))) (hg : A.guards = some []) (tk : Takes (cxOf (L2.CX P w) P w K mg base n_read_sides "read_sides" (defScope s_read_sides) (He.ga K "read_sides") cdv A outer s H E) (lowW K (wX e))) :
    QSs (cxOf (L2.CX P w) P w K mg base n_read_sides "read_sides" (defScope s_read_sides) (He.ga K "read_sides") cdv A outer s H E) (defBody s_read_sides) (t_read_sides K e) :=
  (qss_cons (qs_set (i := 1) sc_read_sides.nd (qe_lst qa_nil))
  (qss_cons (qs_for (passes_of rfl) rfl (qi_seq (qd_call D_lines_in hr hg tk_no (T.glo 13 rfl) (qa_cons (qv 0) qa_nil))) (qg_tup rfl (qgs_cons (qg_name (i := 2) sc_read_sides.nd) (qgs_cons (qg_name (i := 3) sc_read_sides.nd) qgs_nil)))
    (qss_cons (qs_setLc (i := 4) rfl sc_read_sides.nd (qi_seq (qe_slice (qv 3) (qo_some qe_int) qo_none)) (own := [("word", 5)]) (blk_ok (by kernel_rfl)) (fun _ _ _ _ _ => (qv_name (i := 5) sc_read_sides.nd)) (fun _ _ _ _ _ => qts_nil) (fun _ _ _ _ _ => (qd_call D_number_in hr hg tk_no (T.glo 11 rfl) (qa_cons (qv 5) (qa_cons (qe_gint (T.int 54 rfl)) qa_nil)))))
    (qss_cons (qs_if (QW.pt (qw_or (qt_cmp (o_ne hr.units) (qe_ix (hu_of hr) (qv 3) qe_int) qe_str (nomark _)) (qw_or (qt_cmp (o_eq hr.units) (qv 4) (qe_lst qa_nil) (nomark _)) (qw_or1 (qt_cmp (o_in (room65 hr)) qe_non (qv 4) (by rfl))))))
      (qss_one (qs_raiseI rfl tk (xi_NoLine T) (T.glo 58 rfl) (qv 2) hr))
      qss_nil)
    (qss_one (qs_expr (qm_append (qv 1) (qe_T c_tuple (T.free 36 rfl) bb_tuple (qa_cons (qv 4) qa_nil))))))))
  (qss_one (qs_ret (qe_T c_tuple (T.free 36 rfl) bb_tuple (qa_cons (qv 1) qa_nil))))))
def t__law_deck (K : Frag) : TS' :=
  (sSeq (sSet 2 (eB rList (eCons (eV 0) eNil)))
  (sSeq (sIf (tB' (eBin rEq (eV 2) (eLst eNil)))
    (sSet 2 (eLst (eCons (eC (.int 4)) eNil)))
    sNext)
  (sSeq (sSet 3 (eBin rMod (eBin rIx (eV 2) (eC (.int 0))) (eC (.int 2))))
  (sSeq (sPut (eV 2) (eC (.int 0)) (eBin rDiv (eBin rIx (eV 2) (eC (.int 0))) (eC (.int 2))))
  (sSeq (sSet 4 (eLst eNil))
  (sSeq (sFor (iRange (eCons (eV 1) eNil)) (gN 5)
    (sSeq (sSet 6 (eBin rMod (eV 5) (eB rLen (eCons (eV 2) eNil))))
    (sSeq (sSet 7 (eBin rMod (eBin rIx (eV 2) (eV 6)) (eC (.int 1000000))))
    (sSeq (sIf (tB' (eBin rEq (eV 3) (eC (.int 0))))
      (sSeq (sSet 7 (eBin rMod (eBin rAdd (eBin rAdd (eBin rIx (eV 2) (eV 6)) (eBin rMul' (eBin rMul' (eV 5) (eV 5)) (eC (.int 16807)))) (eBin rMul' (eC (.int 3)) (eV 5))) (eC (.int 2147483629))))
      (sSeq (sSet 7 (eBin rMod (eBin rAdd (eBin rMul' (eV 7) (eBin rIx (eLst (eCons (eC (.int 48271)) (eCons (eC (.int 69621)) (eCons (eC (.int 39373)) (eCons (eC (.int 40692)) eNil))))) (eBin rMod (eV 5) (eC (.int 4))))) (eC (.int 7))) (eC (.int 2147483647))))
      (sSet 7 (eBin rMod (eBin rMul' (eV 7) (eV 7)) (eC (.int 2147483629))))))
      (sPut (eV 2) (eV 6) (eBin rDiv (eBin rIx (eV 2) (eV 6)) (eC (.int 1000000)))))
    (sExpr (eM isML rAppend (eV 4) (eCons (eV 7) eNil)))))))
  (sSeq (sExpr (eM isML rRev (eV 4) eNil))
  (sRet (eV 4)))))))))
theorem j__law_deck {P : Program} {w : World} {K : Frag} {mg : Str → Option Value} {base : Heap} (T : Tx K mg) (cdv : Value) (A : Around) (outer : List Env) (s : Shared) (H : Hp) (E : XK) (hr : Room 0 (A.deeper (envOfC "_law_deck" (defScope s__law_deck) s.heap.objs.size (He.ga K "_law_deck") cdv))) (hg : A.guards = some []) :
    QSs (cxOf (L2.CX P w) P w K mg base n__law_deck "_law_deck" (defScope s__law_deck) (He.ga K "_law_deck") cdv A outer s H E) (defBody s__law_deck) (t__law_deck K ) :=
  (qss_cons (qs_set (i := 2) sc__law_deck.nd (qe_T c_list (T.free 40 rfl) bb_list (qa_cons (qv 0) qa_nil)))
  (qss_cons (qs_if (qt_cmp (o_eq hr.units) (qv 2) (qe_lst qa_nil) (nomark _))
    (qss_one (qs_set (i := 2) sc__law_deck.nd (qe_lst (qa_cons qe_int qa_nil))))
    qss_nil)
  (qss_cons (qs_set (i := 3) sc__law_deck.nd (qe_op o_mod (qe_ix (hu_of hr) (qv 2) qe_int) qe_int))
  (qss_cons (qs_put (hu_of hr) (qv 2) qe_int (qe_op o_div (qe_ix (hu_of hr) (qv 2) qe_int) qe_int))
  (qss_cons (qs_set (i := 4) sc__law_deck.nd (qe_lst qa_nil))
  (qss_cons (qs_for (passes_of rfl) rfl (qi_range (T.free 41 rfl) (qa_cons (qv 1) qa_nil)) (qg_name (i := 5) sc__law_deck.nd)
    (qss_cons (qs_set (i := 6) sc__law_deck.nd (qe_op o_mod (qv 5) (qe_B c_len (T.free 43 rfl) bb_len (qa_cons (qv 2) qa_nil))))
    (qss_cons (qs_set (i := 7) sc__law_deck.nd (qe_op o_mod (qe_ix (hu_of hr) (qv 2) (qv 6)) qe_int))
    (qss_cons (qs_if (qt_cmp (o_eq hr.units) (qv 3) qe_int (nomark _))
      (qss_cons (qs_set (i := 7) sc__law_deck.nd (qe_op o_mod (qe_op o_add (qe_op o_add (qe_ix (hu_of hr) (qv 2) (qv 6)) (qe_op o_mul (qe_op o_mul (qv 5) (qv 5)) qe_int)) (qe_op o_mul qe_int (qv 5))) qe_int))
      (qss_cons (qs_set (i := 7) sc__law_deck.nd (qe_op o_mod (qe_op o_add (qe_op o_mul (qv 7) (qe_ix (hu_of hr) (qe_lst (qa_cons qe_int (qa_cons qe_int (qa_cons qe_int (qa_cons qe_int qa_nil))))) (qe_op o_mod (qv 5) qe_int))) qe_int) qe_int))
      (qss_one (qs_set (i := 7) sc__law_deck.nd (qe_op o_mod (qe_op o_mul (qv 7) (qv 7)) qe_int)))))
      (qss_one (qs_put (hu_of hr) (qv 2) (qv 6) (qe_op o_div (qe_ix (hu_of hr) (qv 2) (qv 6)) qe_int))))
    (qss_one (qs_expr (qm_append (qv 4) (qv 7))))))))
  (qss_cons (qs_expr (qm_reverse (qv 4)))
  (qss_one (qs_ret (qv 4))))))))))
def t__law_lowest (K : Frag) : TS' :=
  (sSeq (sPar 2 3 (eCons (eV 0) (eCons (eV 1) eNil)))
  (sSeq (sWhile (tB' (eBin rGt (eV 3) (eC (.int 0))))
    (sPar 2 3 (eCons (eV 3) (eCons (eBin rMod (eV 2) (eV 3)) eNil))))
  (sRet (eTup (eCons (eBin rDiv (eV 0) (eV 2)) (eCons (eBin rDiv (eV 1) (eV 2)) eNil))))))
theorem j__law_lowest {P : Program} {w : World} {K : Frag} {mg : Str → Option Value} {base : Heap} (T : Tx K mg) (cdv : Value) (A : Around) (outer : List Env) (s : Shared) (H : Hp) (E : XK) (hr : Room 0 (A.deeper (envOfC "_law_lowest" (defScope s__law_lowest) s.heap.objs.size (He.ga K "_law_lowest") cdv))) (hg : A.guards = some []) :
    QSs (cxOf (L2.CX P w) P w K mg base n__law_lowest "_law_lowest" (defScope s__law_lowest) (He.ga K "_law_lowest") cdv A outer s H E) (defBody s__law_lowest) (t__law_lowest K ) :=
  (qss_cons (qs_par (i := 2) (j := 3) rfl sc__law_lowest.nd (qa_cons (qv 0) (qa_cons (qv 1) qa_nil)))
  (qss_cons (qs_while (passes_of rfl) (qt_cmp o_gt (qv 3) qe_int (nomark _))
    (qss_one (qs_par (i := 2) (j := 3) rfl sc__law_lowest.nd (qa_cons (qv 3) (qa_cons (qe_op o_mod (qv 2) (qv 3)) qa_nil)))))
  (qss_one (qs_ret (qe_tup (qa_cons (qe_op o_div (qv 0) (qv 2)) (qa_cons (qe_op o_div (qv 1) (qv 2)) qa_nil)))))))
def t__law_number (K : Frag) : TS' :=
  (sSeq (sIf (tB' (eBin rEq (eBin rIx (eV 0) (eC (.int 1))) (eC (.int 1))))
    (sRet (eB rStrI (eCons (eBin rIx (eV 0) (eC (.int 0))) eNil)))
    sNext)
  (sRet (eBin rAdd (eBin rAdd (eB rStrI (eCons (eBin rIx (eV 0) (eC (.int 0))) eNil)) (eC (.str "/"))) (eB rStrI (eCons (eBin rIx (eV 0) (eC (.int 1))) eNil)))))
theorem j__law_number {P : Program} {w : World} {K : Frag} {mg : Str → Option Value} {base : Heap} (T : Tx K mg) (cdv : Value) (A : Around) (outer : List Env) (s : Shared) (H : Hp) (E : XK) (hr : Room 0 (A.deeper (envOfC "_law_number" (defScope s__law_number) s.heap.objs.size (He.ga K "_law_number") cdv))) (hg : A.guards = some []) :
    QSs (cxOf (L2.CX P w) P w K mg base n__law_number "_law_number" (defScope s__law_number) (He.ga K "_law_number") cdv A outer s H E) (defBody s__law_number) (t__law_number K ) :=
  (qss_cons (qs_if (qt_cmp (o_eq hr.units) (qe_ix (hu_of hr) (qv 0) qe_int) qe_int (nomark _))
    (qss_one (qs_ret (qe_T c_str (T.free 42 rfl) bb_str (qa_cons (qe_ix (hu_of hr) (qv 0) qe_int) qa_nil))))
    qss_nil)
  (qss_one (qs_ret (qe_op o_add (qe_op o_add (qe_T c_str (T.free 42 rfl) bb_str (qa_cons (qe_ix (hu_of hr) (qv 0) qe_int) qa_nil)) qe_str) (qe_T c_str (T.free 42 rfl) bb_str (qa_cons (qe_ix (hu_of hr) (qv 0) qe_int) qa_nil))))))
def t__law_any (K : Frag) : TS' :=
  (sSeq (sSet 1 (eM isML rPop (eV 0) eNil))
  (sSeq (sSet 2 (eM isML rPop (eV 0) eNil))
  (sSeq (sSet 3 (eBin rIx (eLst (eCons (eBin rMod (eBin rDiv (eV 1) (eC (.int 7))) (eC (.int 10))) (eCons (eBin rMod (eBin rDiv (eV 1) (eC (.int 7))) (eC (.int 1000))) (eCons (eBin rSub (eBin rSub (eBin rPow (eC (.int 10)) (eC (.int 30))) (eC (.int 1))) (eBin rMod (eBin rDiv (eV 1) (eC (.int 7))) (eC (.int 50)))) (eCons (eBin rAdd (eBin rMul' (eV 1) (eBin rPow (eC (.int 10)) (eC (.int 12)))) (eV 2)) eNil))))) (eBin rMod (eV 1) (eC (.int 4)))))
  (sSeq (sSet 4 (eBin rIx (eLst (eCons (eC (.int 1)) (eCons (eC (.int 1)) (eCons (eBin rAdd (eC (.int 1)) (eBin rMod (eBin rDiv (eV 2) (eC (.int 5))) (eC (.int 40)))) (eCons (eC (.int 55440)) (eCons (eBin rSub (eBin rSub (eBin rPow (eC (.int 10)) (eC (.int 30))) (eC (.int 1))) (eBin rMod (eBin rDiv (eV 2) (eC (.int 5))) (eC (.int 30)))) (eCons (eBin rAdd (eC (.int 1)) (eV 2)) eNil))))))) (eBin rMod (eV 2) (eC (.int 6)))))
  (sRet (eCall (sp__law_lowest K) noW (eCons (eV 3) (eCons (eV 4) eNil))))))))
theorem j__law_any {P : Program} {w : World} {K : Frag} {mg : Str → Option Value} {base : Heap} (T : Tx K mg) (D__law_lowest : Def' P w K mg base 1 (He.ga K "_law_lowest") ["_law_above", "_law_below"] (sp__law_lowest K)) (cdv : Value) (A : Around) (outer : List Env) (s : Shared) (H : Hp) (E : XK) (hr : Room 1 (A.deeper (envOfC "_law_any" (defScope s__law_any) s.heap.objs.size (He.ga K "_law_any") cdv))) (hg : A.guards = some []) :
    QSs (cxOf (L2.CX P w) P w K mg base n__law_any "_law_any" (defScope s__law_any) (He.ga K "_law_any") cdv A outer s H E) (defBody s__law_any) (t__law_any K ) :=
  (qss_cons (qs_set (i := 1) sc__law_any.nd (qm_pop (qv 0)))
  (qss_cons (qs_set (i := 2) sc__law_any.nd (qm_pop (qv 0)))
  (qss_cons (qs_set (i := 3) sc__law_any.nd (qe_ix (hu_of hr) (qe_lst (qa_cons (qe_op o_mod (qe_op o_div (qv 1) qe_int) qe_int) (qa_cons (qe_op o_mod (qe_op o_div (qv 1) qe_int) qe_int) (qa_cons (qe_op o_sub (qe_op o_sub (qe_op o_pow qe_int qe_int) qe_int) (qe_op o_mod (qe_op o_div (qv 1) qe_int) qe_int)) (qa_cons (qe_op o_add (qe_op o_mul (qv 1) (qe_op o_pow qe_int qe_int)) (qv 2)) qa_nil))))) (qe_op o_mod (qv 1) qe_int)))
  (qss_cons (qs_set (i := 4) sc__law_any.nd (qe_ix (hu_of hr) (qe_lst (qa_cons qe_int (qa_cons qe_int (qa_cons (qe_op o_add qe_int (qe_op o_mod (qe_op o_div (qv 2) qe_int) qe_int)) (qa_cons qe_int (qa_cons (qe_op o_sub (qe_op o_sub (qe_op o_pow qe_int qe_int) qe_int) (qe_op o_mod (qe_op o_div (qv 2) qe_int) qe_int)) (qa_cons (qe_op o_add qe_int (qv 2)) qa_nil))))))) (qe_op o_mod (qv 2) qe_int)))
  (qss_one (qs_ret (qd_call D__law_lowest hr hg tk_no (T.glo 22 rfl) (qa_cons (qv 3) (qa_cons (qv 4) qa_nil)))))))))
def t__law_drawn (K : Frag) : TS' :=
  (sSeq (sSet 2 (eLst eNil))
  (sSeq (sFor (iRange (eCons (eV 1) eNil)) (gN 3)
    (sSeq (sSet 4 (eM isML rPop (eV 0) eNil))
    (sExpr (eM isML rAppend (eV 2) (eCons (eTup (eCons (eBin rMod (eV 4) (eC (.int 100))) (eCons (eBin rIx (eLst (eCons (eBin rMod (eBin rDiv (eV 4) (eC (.int 100))) (eC (.int 100))) (eCons (eBin rMod (eBin rDiv (eV 4) (eC (.int 100))) (eC (.int 10))) eNil))) (eBin rMod (eV 3) (eC (.int 2)))) (eCons (eCall (sp__law_any K) noW (eCons (eV 0) eNil)) eNil)))) eNil)))))
  (sRet (eV 2))))
theorem j__law_drawn {P : Program} {w : World} {K : Frag} {mg : Str → Option Value} {base : Heap} (T : Tx K mg) (D__law_any : Def' P w K mg base 2 (He.ga K "_law_any") ["_law_deck_here"] (sp__law_any K)) (cdv : Value) (A : Around) (outer : List Env) (s : Shared) (H : Hp) (E : XK) (hr : Room 2 (A.deeper (envOfC "_law_drawn" (defScope s__law_drawn) s.heap.objs.size (He.ga K "_law_drawn") cdv))) (hg : A.guards = some []) :
    QSs (cxOf (L2.CX P w) P w K mg base n__law_drawn "_law_drawn" (defScope s__law_drawn) (He.ga K "_law_drawn") cdv A outer s H E) (defBody s__law_drawn) (t__law_drawn K ) :=
  (qss_cons (qs_set (i := 2) sc__law_drawn.nd (qe_lst qa_nil))
  (qss_cons (qs_for (passes_of rfl) rfl (qi_range (T.free 41 rfl) (qa_cons (qv 1) qa_nil)) (qg_name (i := 3) sc__law_drawn.nd)
    (qss_cons (qs_set (i := 4) sc__law_drawn.nd (qm_pop (qv 0)))
    (qss_one (qs_expr (qm_append (qv 2) (qe_tup (qa_cons (qe_op o_mod (qv 4) qe_int) (qa_cons (qe_ix (hu_of hr) (qe_lst (qa_cons (qe_op o_mod (qe_op o_div (qv 4) qe_int) qe_int) (qa_cons (qe_op o_mod (qe_op o_div (qv 4) qe_int) qe_int) qa_nil))) (qe_op o_mod (qv 3) qe_int)) (qa_cons (qd_call D__law_any hr hg tk_no (T.glo 24 rfl) (qa_cons (qv 0) qa_nil)) qa_nil)))))))))
  (qss_one (qs_ret (qv 2)))))
def t__law_places (K : Frag) : TS' :=
  (sSeq (sSet 2 (eLst eNil))
  (sSeq (sFor (iRange (eCons (eV 1) eNil)) (gN 3)
    (sSeq (sSet 4 (eM isML rPop (eV 0) eNil))
    (sExpr (eM isML rAppend (eV 2) (eCons (eB rTuple (eCons (eLc (iRange (eCons (eBin rAdd (eC (.int 1)) (eBin rMod (eV 4) (eC (.int 6)))) eNil)) (gN 5) tYes' (eBin rMod (eM isML rPop (eV 0) eNil) (eBin rIx (eLst (eCons (eC (.int 100)) (eCons (eC (.int 10)) (eCons (eC (.int 40)) eNil)))) (eBin rMod (eBin rDiv (eV 4) (eC (.int 9))) (eC (.int 3))))) [5]) eNil)) eNil)))))
  (sRet (eV 2))))
theorem j__law_places {P : Program} {w : World} {K : Frag} {mg : Str → Option Value} {base : Heap} (T : Tx K mg) (cdv : Value) (A : Around) (outer : List Env) (s : Shared) (H : Hp) (E : XK) (hr : Room 0 (A.deeper (envOfC "_law_places" (defScope s__law_places) s.heap.objs.size (He.ga K "_law_places") cdv))) (hg : A.guards = some []) :
    QSs (cxOf (L2.CX P w) P w K mg base n__law_places "_law_places" (defScope s__law_places) (He.ga K "_law_places") cdv A outer s H E) (defBody s__law_places) (t__law_places K ) :=
  (qss_cons (qs_set (i := 2) sc__law_places.nd (qe_lst qa_nil))
  (qss_cons (qs_for (passes_of rfl) rfl (qi_range (T.free 41 rfl) (qa_cons (qv 1) qa_nil)) (qg_name (i := 3) sc__law_places.nd)
    (qss_cons (qs_set (i := 4) sc__law_places.nd (qm_pop (qv 0)))
    (qss_one (qs_expr (qm_append (qv 2) (qe_T c_tuple (T.free 36 rfl) bb_tuple (qa_cons (qe_lc rfl sc__law_places.nd (qi_range (T.free 41 rfl) (qa_cons (qe_op o_add qe_int (qe_op o_mod (qv 4) qe_int)) qa_nil)) (own := [("_law_at", 5)]) (blk_ok (by kernel_rfl)) (fun _ _ _ _ _ => (qv_name (i := 5) sc__law_places.nd)) (fun _ _ _ _ _ => qts_nil) (fun _ _ _ _ _ => (qe_op o_mod (qm_pop (qv 0)) (qe_ix (hu_of hr) (qe_lst (qa_cons qe_int (qa_cons qe_int (qa_cons qe_int qa_nil)))) (qe_op o_mod (qe_op o_div (qv 4) qe_int) qe_int))))) qa_nil)))))))
  (qss_one (qs_ret (qv 2)))))
def t__law_ties (K : Frag) : TS' :=
  (sSeq (sSet 2 eDic0)
  (sSeq (sFor (iRange (eCons (eBin rMod (eM isML rPop (eV 0) eNil) (eC (.int 9))) eNil)) (gN 3)
    (sSeq (sSet 4 (eM isML rPop (eV 0) eNil))
    (sSeq (sSet 5 (eBin rMod (eV 4) (eV 1)))
    (sSeq (sSet 6 (eBin rMod (eBin rDiv (eV 4) (eC (.int 41))) (eV 1)))
    (sSeq (sSet 7 (eLst (eCons (eTup (eCons (eC (.int 1)) (eCons (eC (.int 1)) eNil))) (eCons (eTup (eCons (eC (.int 1)) (eCons (eC (.int 2)) eNil))) (eCons (eTup (eCons (eC (.int 3)) (eCons (eC (.int 4)) eNil))) (eCons (eTup (eCons (eBin rPow (eC (.int 10)) (eC (.int 12))) (eCons (eC (.int 1)) eNil))) (eCons (eTup (eCons (eC (.int 1)) (eCons (eC (.int 55440)) eNil))) (eCons (eTup (eCons (eC (.int 5)) (eCons (eC (.int 12)) eNil))) (eCons (eTup (eCons (eBin rSub (eBin rPow (eC (.int 10)) (eC (.int 12))) (eC (.int 3))) (eCons (eC (.int 7)) eNil))) (eCons (eTup (eCons (eC (.int 0)) (eCons (eC (.int 1)) eNil))) eNil))))))))))
    (sIf (tB' (eBin rNe (eV 5) (eV 6)))
      (sPut (eV 2) (eTup (eCons (eB (rTwoI fun i j => if j < i then j else i) (eCons (eV 5) (eCons (eV 6) eNil))) (eCons (eB (rTwoI fun i j => if j > i then j else i) (eCons (eV 5) (eCons (eV 6) eNil))) eNil))) (eBin rIx (eBin rAdd (eV 7) (eLst (eCons (eTup (eCons (eBin rMod (eBin rDiv (eV 4) (eC (.int 9))) (eC (.int 99))) (eCons (eC (.int 1)) eNil))) eNil))) (eBin rMod (eBin rDiv (eV 4) (eC (.int 1700))) (eC (.int 9)))))
      sNext))))))
  (sRet (eLc (iSeq (eB rSorted (eCons (eV 2) eNil))) (gN 8) tYes' (eBin rAdd (eV 8) (eTup (eCons (eBin rIx (eV 2) (eV 8)) eNil))) [8]))))
theorem j__law_ties {P : Program} {w : World} {K : Frag} {mg : Str → Option Value} {base : Heap} (T : Tx K mg) (cdv : Value) (A : Around) (outer : List Env) (s : Shared) (H : Hp) (E : XK) (hr : Room 0 (A.deeper (envOfC "_law_ties" (defScope s__law_ties) s.heap.objs.size (He.ga K "_law_ties") cdv))) (hg : A.guards = some []) :
    QSs (cxOf (L2.CX P w) P w K mg base n__law_ties "_law_ties" (defScope s__law_ties) (He.ga K "_law_ties") cdv A outer s H E) (defBody s__law_ties) (t__law_ties K ) :=
  (qss_cons (qs_set (i := 2) sc__law_ties.nd qe_dic0)
  (qss_cons (qs_for (passes_of rfl) rfl (qi_range (T.free 41 rfl) (qa_cons (qe_op o_mod (qm_pop (qv 0)) qe_int) qa_nil)) (qg_name (i := 3) sc__law_ties.nd)
    (qss_cons (qs_set (i := 4) sc__law_ties.nd (qm_pop (qv 0)))
    (qss_cons (qs_set (i := 5) sc__law_ties.nd (qe_op o_mod (qv 4) (qv 1)))
    (qss_cons (qs_set (i := 6) sc__law_ties.nd (qe_op o_mod (qe_op o_div (qv 4) qe_int) (qv 1)))
    (qss_cons (qs_set (i := 7) sc__law_ties.nd (qe_lst (qa_cons (qe_tup (qa_cons qe_int (qa_cons qe_int qa_nil))) (qa_cons (qe_tup (qa_cons qe_int (qa_cons qe_int qa_nil))) (qa_cons (qe_tup (qa_cons qe_int (qa_cons qe_int qa_nil))) (qa_cons (qe_tup (qa_cons (qe_op o_pow qe_int qe_int) (qa_cons qe_int qa_nil))) (qa_cons (qe_tup (qa_cons qe_int (qa_cons qe_int qa_nil))) (qa_cons (qe_tup (qa_cons qe_int (qa_cons qe_int qa_nil))) (qa_cons (qe_tup (qa_cons (qe_op o_sub (qe_op o_pow qe_int qe_int) qe_int) (qa_cons qe_int qa_nil))) (qa_cons (qe_tup (qa_cons qe_int (qa_cons qe_int qa_nil))) qa_nil))))))))))
    (qss_one (qs_if (qt_cmp (o_ne hr.units) (qv 5) (qv 6) (nomark _))
      (qss_one (qs_put (hu_of hr) (qv 2) (qe_tup (qa_cons (qe_B (c_min2 rfl) (T.free 46 rfl) bb_min (qa_cons (qv 5) (qa_cons (qv 6) qa_nil))) (qa_cons (qe_B (c_max2 rfl) (T.free 47 rfl) bb_max (qa_cons (qv 5) (qa_cons (qv 6) qa_nil))) qa_nil))) (qe_ix (hu_of hr) (qe_op o_add (qv 7) (qe_lst (qa_cons (qe_tup (qa_cons (qe_op o_mod (qe_op o_div (qv 4) qe_int) qe_int) (qa_cons qe_int qa_nil))) qa_nil))) (qe_op o_mod (qe_op o_div (qv 4) qe_int) qe_int))))
      qss_nil)))))))
  (qss_one (qs_ret (qe_lc rfl sc__law_ties.nd (qi_seq (qe_B (c_sorted rfl hr.units) (T.free 45 rfl) bb_sorted (qa_cons (qv 2) qa_nil))) (own := [("_law_pair", 8)]) (blk_ok (by kernel_rfl)) (fun _ _ _ _ _ => (qv_name (i := 8) sc__law_ties.nd)) (fun _ _ _ _ _ => qts_nil) (fun _ _ _ _ _ => (qe_op o_add (qv 8) (qe_tup (qa_cons (qe_ix (hu_of hr) (qv 2) (qv 8)) qa_nil)))))))))
def t__law_line (K : Frag) : TS' :=
  (sRet (eM isS rJoin (eC (.str " ")) (eCons (eLst (eCons (eV 0) (eCons (eB rStrI (eCons (eBin rIx (eV 1) (eC (.int 0))) eNil)) (eCons (eB rStrI (eCons (eBin rIx (eV 1) (eC (.int 1))) eNil)) (eCons (eCall (sp__law_number K) noW (eCons (eBin rIx (eV 1) (eC (.int 2))) eNil)) eNil))))) eNil)))
theorem j__law_line {P : Program} {w : World} {K : Frag} {mg : Str → Option Value} {base : Heap} (T : Tx K mg) (D__law_number : Def' P w K mg base 1 (He.ga K "_law_number") ["_law_amount"] (sp__law_number K)) (cdv : Value) (A : Around) (outer : List Env) (s : Shared) (H : Hp) (E : XK) (hr : Room 1 (A.deeper (envOfC "_law_line" (defScope s__law_line) s.heap.objs.size (He.ga K "_law_line") cdv))) (hg : A.guards = some []) :
    QSs (cxOf (L2.CX P w) P w K mg base n__law_line "_law_line" (defScope s__law_line) (He.ga K "_law_line") cdv A outer s H E) (defBody s__law_line) (t__law_line K ) :=
  (qss_one (qs_ret (qm_join qe_str (qe_lst (qa_cons (qv 0) (qa_cons (qe_T c_str (T.free 42 rfl) bb_str (qa_cons (qe_ix (hu_of hr) (qv 1) qe_int) qa_nil)) (qa_cons (qe_T c_str (T.free 42 rfl) bb_str (qa_cons (qe_ix (hu_of hr) (qv 1) qe_int) qa_nil)) (qa_cons (qd_call D__law_number hr hg tk_no (T.glo 23 rfl) (qa_cons (qe_ix (hu_of hr) (qv 1) qe_int) qa_nil)) qa_nil))))))))
def t__law_caught (K : Frag) : TS' :=
  (sSeq (sSet 2 (eLst (eCons (eC (.ref (He.ga K "read_web"))) (eCons (eC (.ref (He.ga K "read_tree"))) (eCons (eC (.ref (He.ga K "read_flow"))) (eCons (eC (.ref (He.ga K "read_sides"))) eNil))))))
  (sSeq (sSet 3 (eC .non))
  (sSeq (sTry K (.ref (He.ga K "CutError")) 4 (fun W => (sExpr (eCallE [(He.ga K "read_web", (sp_read_web K)), (He.ga K "read_tree", (sp_read_tree K)), (He.ga K "read_flow", (sp_read_flow K)), (He.ga K "read_sides", (sp_read_sides K))] W (eBin rIx (eV 2) (eV 0)) (eCons (eV 1) eNil))))
    (sSet 3 (eV 4))
    noW)
  (sSeq (sIf (tAnd' (tB' (eB (rIsX K) (eCons (eV 3) (eCons (eC (.ref (He.ga K "NoLine"))) eNil)))) (tAnd' (tB' (eB (rIsX K) (eCons (eV 3) (eCons (eC (.ty "ValueError")) eNil)))) (tNot' (tB' (eB rIsi (eCons (eFldX K (eV 3) "at") (eCons (eC (.ty "bool")) eNil)))))))
    (sRet (eFldX K (eV 3) "at"))
    sNext)
  (sRet (eC .non))))))
theorem j__law_caught {P : Program} {w : World} {K : Frag} {mg : Str → Option Value} {base : Heap} (T : Tx K mg) (D_read_web : Def' P w K mg base 8 (He.ga K "read_web") ["text"] (sp_read_web K)) (D_read_tree : Def' P w K mg base 5 (He.ga K "read_tree") ["text"] (sp_read_tree K)) (D_read_flow : Def' P w K mg base 5 (He.ga K "read_flow") ["text"] (sp_read_flow K)) (D_read_sides : Def' P w K mg base 3 (He.ga K "read_sides") ["text"] (sp_read_sides K)) (cdv : Value) (A : Around) (outer : List Env) (s : Shared) (H : Hp) (E : XK) (hr : Room 8 (A.deeper (envOfC "_law_caught" (defScope s__law_caught) s.heap.objs.size (He.ga K "_law_caught") cdv))) (hg : A.guards = some []) :
    QSs (cxOf (L2.CX P w) P w K mg base n__law_caught "_law_caught" (defScope s__law_caught) (He.ga K "_law_caught") cdv A outer s H E) (defBody s__law_caught) (t__law_caught K ) :=
  (qss_cons (qs_set (i := 2) sc__law_caught.nd (qe_lst (qa_cons (qe_gref (T.glo 16 rfl)) (qa_cons (qe_gref (T.glo 18 rfl)) (qa_cons (qe_gref (T.glo 19 rfl)) (qa_cons (qe_gref (T.glo 20 rfl)) qa_nil))))))
  (qss_cons (qs_set (i := 3) sc__law_caught.nd qe_non)
  (qss_cons (qs_try (i := 4) rfl rfl rfl sc__law_caught.nd rfl rfl ⟨rfl, by decide, .inl (T.glo 55 rfl)⟩ tk_no (fun _ _ _ => (qsx_one (qsx_expr (qex_callE (fun q hq => by simp only [List.mem_cons, List.not_mem_nil, or_false] at hq; rcases hq with rfl | rfl | rfl | rfl <;> first | exact ⟨_, _, by decide, D_read_web⟩ | exact ⟨_, _, by decide, D_read_tree⟩ | exact ⟨_, _, by decide, D_read_flow⟩ | exact ⟨_, _, by decide, D_read_sides⟩) hr hg (qe_ix (hu_of hr) (qv 2) (qv 0)) (qa_cons (qv 1) qa_nil)))))
    (fun _ _ => (qss_one (qs_set (i := 3) sc__law_caught.nd (qv 4)))))
  (qss_cons (qs_if (QW.pt (qw_and (qt_val (qe_B c_isX (T.free 35 rfl) bb_isinstance (qa_cons (qv 3) (qa_cons (qe_gref (T.glo 58 rfl)) qa_nil)))) (qw_and (qt_val (qe_B c_isX (T.free 35 rfl) bb_isinstance (qa_cons (qv 3) (qa_cons (qe_ty (T.free 34 rfl) bb_ValueError) qa_nil)))) (qw_and1 (qt_not (qt_val (qe_B c_isi (T.free 35 rfl) bb_isinstance (qa_cons (qe_fldX (qv 3)) (qa_cons (qe_ty (T.free 44 rfl) bb_bool) qa_nil)))))))))
    (qss_one (qs_ret (qe_fldX (qv 3))))
    qss_nil)
  (qss_one (qs_ret qe_non))))))
def t__law_wrong (K : Frag) : TS' :=
  (sSeq (sSet 1 (eBin rAdd (eC (.str "1")) (eBin rMul' (eC (.str "0")) (eC (.int 30)))))
  (sSeq (sSet 2 (eLst (eCons (eC (.str "")) (eCons (eC (.str " 0")) (eCons (eC (.str " 0 1")) (eCons (eC (.str " 0 1 1 1")) (eCons (eC (.str " a 1 1")) (eCons (eC (.str " 0 1 b")) (eCons (eC (.str " 00 1 1")) (eCons (eC (.str " 0 01 1")) (eCons (eC (.str " 0 1 01")) (eCons (eC (.str " 0 1 2/2")) (eCons (eC (.str " 0 1 4/6")) eNil)))))))))))))
  (sSeq (sSet 2 (eBin rAdd (eV 2) (eLst (eCons (eC (.str " 0 1 1/1")) (eCons (eC (.str " 0 1 1/0")) (eCons (eC (.str " 0 1 0/1")) (eCons (eC (.str " 0 1 0/2")) (eCons (eC (.str " 0 1 /2")) (eCons (eC (.str " 0 1 1/")) (eCons (eC (.str " 0 1 /")) (eCons (eC (.str " 0 1 1/2/3")) eNil)))))))))))
  (sSeq (sSet 2 (eBin rAdd (eV 2) (eLst (eCons (eC (.str " 100 1 1")) (eCons (eC (.str " 0 100 1")) (eCons (eBin rAdd (eC (.str " 0 1 ")) (eV 1)) (eCons (eBin rAdd (eC (.str " 0 1 1/")) (eV 1)) (eCons (eC (.str " 0 1/1 1")) (eCons (eC (.str " 0 1 1/02")) (eCons (eC (.str " 0 1 01/2")) eNil))))))))))
  (sSeq (sSet 2 (eLc (iSeq (eV 2)) (gN 3) tYes' (eBin rAdd (eV 0) (eV 3)) [3]))
  (sRet (eBin rAdd (eV 2) (eLst (eCons (eBin rAdd (eV 0) (eC (.str "0 1 1"))) (eCons (eC (.str "x 0 1 1")) (eCons (eC (.str "0 1 1")) (eCons (eBin rAdd (eSl (eV 0) oNo (oPart (eNeg (eC (.int 1))))) (eC (.str " 0 1 1"))) (eCons (eBin rAdd (eBin rMul' (eV 0) (eC (.int 2))) (eC (.str " 0 1 1"))) eNil)))))))))))))
theorem j__law_wrong {P : Program} {w : World} {K : Frag} {mg : Str → Option Value} {base : Heap} (T : Tx K mg) (cdv : Value) (A : Around) (outer : List Env) (s : Shared) (H : Hp) (E : XK) (hr : Room 0 (A.deeper (envOfC "_law_wrong" (defScope s__law_wrong) s.heap.objs.size (He.ga K "_law_wrong") cdv))) (hg : A.guards = some []) :
    QSs (cxOf (L2.CX P w) P w K mg base n__law_wrong "_law_wrong" (defScope s__law_wrong) (He.ga K "_law_wrong") cdv A outer s H E) (defBody s__law_wrong) (t__law_wrong K ) :=
  (qss_cons (qs_set (i := 1) sc__law_wrong.nd (qe_op o_add qe_str (qe_op o_mul qe_str qe_int)))
  (qss_cons (qs_set (i := 2) sc__law_wrong.nd (qe_lst (qa_cons qe_str (qa_cons qe_str (qa_cons qe_str (qa_cons qe_str (qa_cons qe_str (qa_cons qe_str (qa_cons qe_str (qa_cons qe_str (qa_cons qe_str (qa_cons qe_str (qa_cons qe_str qa_nil)))))))))))))
  (qss_cons (qs_set (i := 2) sc__law_wrong.nd (qe_op o_add (qv 2) (qe_lst (qa_cons qe_str (qa_cons qe_str (qa_cons qe_str (qa_cons qe_str (qa_cons qe_str (qa_cons qe_str (qa_cons qe_str (qa_cons qe_str qa_nil)))))))))))
  (qss_cons (qs_set (i := 2) sc__law_wrong.nd (qe_op o_add (qv 2) (qe_lst (qa_cons qe_str (qa_cons qe_str (qa_cons (qe_op o_add qe_str (qv 1)) (qa_cons (qe_op o_add qe_str (qv 1)) (qa_cons qe_str (qa_cons qe_str (qa_cons qe_str qa_nil))))))))))
  (qss_cons (qs_setLc (i := 2) rfl sc__law_wrong.nd (qi_seq (qv 2)) (own := [("_law_more", 3)]) (blk_ok (by kernel_rfl)) (fun _ _ _ _ _ => (qv_name (i := 3) sc__law_wrong.nd)) (fun _ _ _ _ _ => qts_nil) (fun _ _ _ _ _ => (qe_op o_add (qv 0) (qv 3))))
  (qss_one (qs_ret (qe_op o_add (qv 2) (qe_lst (qa_cons (qe_op o_add (qv 0) qe_str) (qa_cons qe_str (qa_cons qe_str (qa_cons (qe_op o_add (qe_slice (qv 0) qo_none (qo_some (qe_neg qe_int))) qe_str) (qa_cons (qe_op o_add (qe_op o_mul (qv 0) qe_int) qe_str) qa_nil))))))))))))))
def t__law_put (K : Frag) : TS' :=
  (sSeq (sSet 4 (eBin rAdd (eV 3) (eBin rMod (eM isML rPop (eV 0) eNil) (eBin rSub (eBin rAdd (eB rLen (eCons (eV 1) eNil)) (eC (.int 1))) (eV 3)))))
  (sSeq (sSet 5 (eM isML rPop (eV 0) eNil))
  (sSeq (sSet 6 (eBin rAdd (eBin rAdd (eBin rMul' (eLst (eCons (eC (.str "")) eNil)) (eBin rMod (eV 5) (eC (.int 3)))) (eSl (eV 1) oNo (oPart (eV 4)))) (eBin rMul' (eLst (eCons (eC (.str "  ")) eNil)) (eBin rMod (eBin rDiv (eV 5) (eC (.int 3))) (eC (.int 2))))))
  (sSeq (sSet 7 (eBin rIx (eLst (eCons (eV 2) (eCons (eC (.str "")) (eCons (eC (.str "nothing 1")) eNil)))) (eBin rMod (eBin rDiv (eV 5) (eC (.int 6))) (eC (.int 3)))))
  (sRet (eTup (eCons (eM isS rJoin (eC (.str "\n")) (eCons (eBin rAdd (eBin rAdd (eBin rAdd (eV 6) (eLst (eCons (eV 2) eNil))) (eSl (eV 1) (oPart (eV 4)) oNo)) (eLst (eCons (eV 7) eNil))) eNil)) (eCons (eB rLen (eCons (eV 6) eNil)) eNil))))))))
theorem j__law_put {P : Program} {w : World} {K : Frag} {mg : Str → Option Value} {base : Heap} (T : Tx K mg) (cdv : Value) (A : Around) (outer : List Env) (s : Shared) (H : Hp) (E : XK) (hr : Room 0 (A.deeper (envOfC "_law_put" (defScope s__law_put) s.heap.objs.size (He.ga K "_law_put") cdv))) (hg : A.guards = some []) :
    QSs (cxOf (L2.CX P w) P w K mg base n__law_put "_law_put" (defScope s__law_put) (He.ga K "_law_put") cdv A outer s H E) (defBody s__law_put) (t__law_put K ) :=
  (qss_cons (qs_set (i := 4) sc__law_put.nd (qe_op o_add (qv 3) (qe_op o_mod (qm_pop (qv 0)) (qe_op o_sub (qe_op o_add (qe_B c_len (T.free 43 rfl) bb_len (qa_cons (qv 1) qa_nil)) qe_int) (qv 3)))))
  (qss_cons (qs_set (i := 5) sc__law_put.nd (qm_pop (qv 0)))
  (qss_cons (qs_set (i := 6) sc__law_put.nd (qe_op o_add (qe_op o_add (qe_op o_mul (qe_lst (qa_cons qe_str qa_nil)) (qe_op o_mod (qv 5) qe_int)) (qe_slice (qv 1) qo_none (qo_some (qv 4)))) (qe_op o_mul (qe_lst (qa_cons qe_str qa_nil)) (qe_op o_mod (qe_op o_div (qv 5) qe_int) qe_int))))
  (qss_cons (qs_set (i := 7) sc__law_put.nd (qe_ix (hu_of hr) (qe_lst (qa_cons (qv 2) (qa_cons qe_str (qa_cons qe_str qa_nil)))) (qe_op o_mod (qe_op o_div (qv 5) qe_int) qe_int)))
  (qss_one (qs_ret (qe_tup (qa_cons (qm_join qe_str (qe_op o_add (qe_op o_add (qe_op o_add (qv 6) (qe_lst (qa_cons (qv 2) qa_nil))) (qe_slice (qv 1) (qo_some (qv 4)) qo_none)) (qe_lst (qa_cons (qv 7) qa_nil)))) (qa_cons (qe_B c_len (T.free 43 rfl) bb_len (qa_cons (qv 6) qa_nil)) qa_nil)))))))))
def t__law_webs (K : Frag) : TS' :=
  (sSeq (sSet 1 (eBin rAdd (eC (.int 2)) (eBin rMod (eM isML rPop (eV 0) eNil) (eC (.int 30)))))
  (sSeq (sSet 2 (eCall (sp__law_ties K) noW (eCons (eV 0) (eCons (eV 1) eNil))))
  (sSeq (sSet 3 (eBin rAdd (eLst (eCons (eBin rAdd (eC (.str "places ")) (eB rStrI (eCons (eV 1) eNil))) eNil)) (eLc (iSeq (eV 2)) (gN 4) tYes' (eCall (sp__law_line K) noW (eCons (eC (.str "tie")) (eCons (eV 4) eNil))) [4])))
  (sSeq (sSet 5 (eB rStrI (eCons (eV 1) eNil)))
  (sSeq (sSet 6 (eBin rAdd (eCall (sp__law_wrong K) noW (eCons (eC (.str "tie")) eNil)) (eLst (eCons (eC (.str "tie 1 0 1")) (eCons (eC (.str "tie 1 1 1")) (eCons (eBin rAdd (eBin rAdd (eC (.str "tie 0 ")) (eV 5)) (eC (.str " 1"))) (eCons (eC (.str "tie 0 1 1/13")) eNil)))))))
  (sSeq (sSet 6 (eBin rAdd (eV 6) (eLst (eCons (eC (.str "tie 0 1 1000000000001")) (eCons (eBin rAdd (eC (.str "places ")) (eV 5)) (eCons (eC (.str "branch 0 1 1")) (eCons (eC (.str "flow 0 1 1")) (eCons (eC (.str "side 1")) eNil))))))))
  (sSeq (sExpr (eM isML rAppend (eV 6) (eCons (eC (.str "tie 0 1 1/110880")) eNil)))
  (sSeq (sFor (iSeq (eV 6)) (gN 7)
    (sSeq (sAsg (eCall (sp__law_put K) noW (eCons (eSl (eV 0) oNo (oPart (eC (.int 2)))) (eCons (eV 3) (eCons (eV 7) (eCons (eC (.int 1)) eNil))))) (gTuple 2 (gsCons (gN 8) (gsCons (gN 9) gsNil))))
    (sIf (tB' (eBin rNe (eCall (sp__law_caught K) noW (eCons (eC (.int 0)) (eCons (eV 8) eNil))) (eV 9)))
      (sRet (eC (.bl false)))
      sNext)))
  (sSeq (sSet 10 (eBin rAdd (eLst (eCons (eC (.str "tie 0 1 1")) eNil)) (eLc (iSeq (eSl (eV 3) (oPart (eC (.int 1))) oNo)) (gN 11) (tB' (eBin rNe (eSl (eV 11) oNo (oPart (eC (.int 8)))) (eC (.str "tie 0 1 ")))) (eV 11) [11])))
  (sSeq (sAsg (eCall (sp__law_put K) noW (eCons (eSl (eV 0) (oPart (eC (.int 2))) (oPart (eC (.int 4)))) (eCons (eBin rAdd (eSl (eV 3) oNo (oPart (eC (.int 1)))) (eV 10)) (eCons (eC (.str "tie  0 1 0")) (eCons (eC (.int 2)) eNil))))) (gTuple 2 (gsCons (gN 8) (gsCons (gN 9) gsNil))))
  (sSeq (sIf (tB' (eBin rNe (eCall (sp__law_caught K) noW (eCons (eC (.int 0)) (eCons (eV 8) eNil))) (eV 9)))
    (sRet (eC (.bl false)))
    sNext)
  (sSeq (sAsg (eCall (sp__law_put K) noW (eCons (eSl (eV 0) (oPart (eC (.int 2))) (oPart (eC (.int 4)))) (eCons (eBin rAdd (eBin rAdd (eSl (eV 3) oNo (oPart (eC (.int 1)))) (eLst (eCons (eC (.str "tie 0 1 0")) eNil))) (eSl (eV 10) (oPart (eC (.int 1))) oNo)) (eCons (eC (.str "tie 0 1 1")) (eCons (eC (.int 2)) eNil))))) (gTuple 2 (gsCons (gN 8) (gsCons (gN 9) gsNil))))
  (sSeq (sIf (tB' (eBin rNe (eCall (sp__law_caught K) noW (eCons (eC (.int 0)) (eCons (eV 8) eNil))) (eV 9)))
    (sRet (eC (.bl false)))
    sNext)
  (sSeq (sSet 12 (eLst (eCons (eC (.str "places")) (eCons (eC (.str "places 0")) (eCons (eC (.str "places 41")) (eCons (eC (.str "places 100")) (eCons (eC (.str "places 03")) (eCons (eC (.str "places 3 3")) (eCons (eC (.str "place 3")) (eCons (eC (.str "tie 0 1 1")) (eCons (eC (.str "3")) eNil)))))))))))
  (sSeq (sFor (iSeq (eBin rAdd (eV 12) (eLst (eCons (eC (.str "places a")) eNil)))) (gN 7)
    (sIf (tB' (eBin rNe (eCall (sp__law_caught K) noW (eCons (eC (.int 0)) (eCons (eBin rAdd (eC (.str "\n \n")) (eM isS rJoin (eC (.str "\n")) (eCons (eBin rAdd (eLst (eCons (eV 7) eNil)) (eV 3)) eNil))) eNil))) (eC (.int 2))))
      (sRet (eC (.bl false)))
      sNext))
  (sRet (eBin rEq (eLc (iSeq (eLst (eCons (eC (.str "")) (eCons (eC (.str " ")) (eCons (eC (.str "\n")) (eCons (eC (.str "  \n \n\n")) eNil)))))) (gN 8) tYes' (eCall (sp__law_caught K) noW (eCons (eC (.int 0)) (eCons (eV 8) eNil))) [8]) (eLst (eCons (eC (.int 0)) (eCons (eC (.int 0)) (eCons (eC (.int 1)) (eCons (eC (.int 3)) eNil))))))))))))))))))))))
theorem j__law_webs {P : Program} {w : World} {K : Frag} {mg : Str → Option Value} {base : Heap} (T : Tx K mg) (D__law_ties : Def' P w K mg base 1 (He.ga K "_law_ties") ["_law_deck_here", "_law_many"] (sp__law_ties K)) (D__law_line : Def' P w K mg base 2 (He.ga K "_law_line") ["_law_word", "_law_row"] (sp__law_line K)) (D__law_wrong : Def' P w K mg base 1 (He.ga K "_law_wrong") ["_law_word"] (sp__law_wrong K)) (D__law_put : Def' P w K mg base 1 (He.ga K "_law_put") ["_law_deck_here", "_law_lines", "_law_wrong_here", "_law_first"] (sp__law_put K)) (D__law_caught : Def' P w K mg base 9 (He.ga K "_law_caught") ["_law_which", "_law_text"] (sp__law_caught K)) (cdv : Value) (A : Around) (outer : List Env) (s : Shared) (H : Hp) (E : XK) (hr : Room 9 (A.deeper (envOfC "_law_webs" (defScope s__law_webs) s.heap.objs.size (He.ga K "_law_webs") cdv))) (hg : A.guards = some []) :
    QSs (cxOf (L2.CX P w) P w K mg base n__law_webs "_law_webs" (defScope s__law_webs) (He.ga K "_law_webs") cdv A outer s H E) (defBody s__law_webs) (t__law_webs K ) :=
  (qss_cons (qs_set (i := 1) sc__law_webs.nd (qe_op o_add qe_int (qe_op o_mod (qm_pop (qv 0)) qe_int)))
  (qss_cons (qs_set (i := 2) sc__law_webs.nd (qd_call D__law_ties hr hg tk_no (T.glo 27 rfl) (qa_cons (qv 0) (qa_cons (qv 1) qa_nil))))
  (qss_cons (qs_set (i := 3) sc__law_webs.nd (qe_op o_add (qe_lst (qa_cons (qe_op o_add qe_str (qe_T c_str (T.free 42 rfl) bb_str (qa_cons (qv 1) qa_nil))) qa_nil)) (qe_lc rfl sc__law_webs.nd (qi_seq (qv 2)) (own := [("_law_row", 4)]) (blk_ok (by kernel_rfl)) (fun _ _ _ _ _ => (qv_name (i := 4) sc__law_webs.nd)) (fun _ _ _ _ _ => qts_nil) (fun _ _ _ _ _ => (qd_call D__law_line hr hg tk_no (T.glo 28 rfl) (qa_cons qe_str (qa_cons (qv 4) qa_nil)))))))
  (qss_cons (qs_set (i := 5) sc__law_webs.nd (qe_T c_str (T.free 42 rfl) bb_str (qa_cons (qv 1) qa_nil)))
  (qss_cons (qs_set (i := 6) sc__law_webs.nd (qe_op o_add (qd_call D__law_wrong hr hg tk_no (T.glo 30 rfl) (qa_cons qe_str qa_nil)) (qe_lst (qa_cons qe_str (qa_cons qe_str (qa_cons (qe_op o_add (qe_op o_add qe_str (qv 5)) qe_str) (qa_cons qe_str qa_nil)))))))
  (qss_cons (qs_set (i := 6) sc__law_webs.nd (qe_op o_add (qv 6) (qe_lst (qa_cons qe_str (qa_cons (qe_op o_add qe_str (qv 5)) (qa_cons qe_str (qa_cons qe_str (qa_cons qe_str qa_nil))))))))
  (qss_cons (qs_expr (qm_append (qv 6) qe_str))
  (qss_cons (qs_for (passes_of rfl) rfl (qi_seq (qv 6)) (qg_name (i := 7) sc__law_webs.nd)
    (qss_cons (qs_asg (qd_call D__law_put hr hg tk_no (T.glo 31 rfl) (qa_cons (qe_slice (qv 0) qo_none (qo_some qe_int)) (qa_cons (qv 3) (qa_cons (qv 7) (qa_cons qe_int qa_nil))))) (qg_tup rfl (qgs_cons (qg_name (i := 8) sc__law_webs.nd) (qgs_cons (qg_name (i := 9) sc__law_webs.nd) qgs_nil))))
    (qss_one (qs_if (qt_cmp (o_ne hr.units) (qd_call D__law_caught hr hg tk_no (T.glo 29 rfl) (qa_cons qe_int (qa_cons (qv 8) qa_nil))) (qv 9) (nomark _))
      (qss_one (qs_ret qe_bl))
      qss_nil))))
  (qss_cons (qs_set (i := 10) sc__law_webs.nd (qe_op o_add (qe_lst (qa_cons qe_str qa_nil)) (qe_lc rfl sc__law_webs.nd (qi_seq (qe_slice (qv 3) (qo_some qe_int) qo_none)) (own := [("_law_line_here", 11)]) (blk_ok (by kernel_rfl)) (fun _ _ _ _ _ => (qv_name (i := 11) sc__law_webs.nd)) (fun _ _ _ _ _ => (qts_one (qt_cmp (o_ne hr.units) (qe_slice (qv 11) qo_none (qo_some qe_int)) qe_str (nomark _)))) (fun _ _ _ _ _ => (qv 11)))))
  (qss_cons (qs_asg (qd_call D__law_put hr hg tk_no (T.glo 31 rfl) (qa_cons (qe_slice (qv 0) (qo_some qe_int) (qo_some qe_int)) (qa_cons (qe_op o_add (qe_slice (qv 3) qo_none (qo_some qe_int)) (qv 10)) (qa_cons qe_str (qa_cons qe_int qa_nil))))) (qg_tup rfl (qgs_cons (qg_name (i := 8) sc__law_webs.nd) (qgs_cons (qg_name (i := 9) sc__law_webs.nd) qgs_nil))))
  (qss_cons (qs_if (qt_cmp (o_ne hr.units) (qd_call D__law_caught hr hg tk_no (T.glo 29 rfl) (qa_cons qe_int (qa_cons (qv 8) qa_nil))) (qv 9) (nomark _))
    (qss_one (qs_ret qe_bl))
    qss_nil)
  (qss_cons (qs_asg (qd_call D__law_put hr hg tk_no (T.glo 31 rfl) (qa_cons (qe_slice (qv 0) (qo_some qe_int) (qo_some qe_int)) (qa_cons (qe_op o_add (qe_op o_add (qe_slice (qv 3) qo_none (qo_some qe_int)) (qe_lst (qa_cons qe_str qa_nil))) (qe_slice (qv 10) (qo_some qe_int) qo_none)) (qa_cons qe_str (qa_cons qe_int qa_nil))))) (qg_tup rfl (qgs_cons (qg_name (i := 8) sc__law_webs.nd) (qgs_cons (qg_name (i := 9) sc__law_webs.nd) qgs_nil))))
  (qss_cons (qs_if (qt_cmp (o_ne hr.units) (qd_call D__law_caught hr hg tk_no (T.glo 29 rfl) (qa_cons qe_int (qa_cons (qv 8) qa_nil))) (qv 9) (nomark _))
    (qss_one (qs_ret qe_bl))
    qss_nil)
  (qss_cons (qs_set (i := 12) sc__law_webs.nd (qe_lst (qa_cons qe_str (qa_cons qe_str (qa_cons qe_str (qa_cons qe_str (qa_cons qe_str (qa_cons qe_str (qa_cons qe_str (qa_cons qe_str (qa_cons qe_str qa_nil)))))))))))
  (qss_cons (qs_for (passes_of rfl) rfl (qi_seq (qe_op o_add (qv 12) (qe_lst (qa_cons qe_str qa_nil)))) (qg_name (i := 7) sc__law_webs.nd)
    (qss_one (qs_if (qt_cmp (o_ne hr.units) (qd_call D__law_caught hr hg tk_no (T.glo 29 rfl) (qa_cons qe_int (qa_cons (qe_op o_add qe_str (qm_join qe_str (qe_op o_add (qe_lst (qa_cons (qv 7) qa_nil)) (qv 3)))) qa_nil))) qe_int (nomark _))
      (qss_one (qs_ret qe_bl))
      qss_nil)))
  (qss_one (qs_ret (qe_cmp (o_eq hr.units) (qe_lc rfl sc__law_webs.nd (qi_seq (qe_lst (qa_cons qe_str (qa_cons qe_str (qa_cons qe_str (qa_cons qe_str qa_nil)))))) (own := [("_law_text", 8)]) (blk_ok (by kernel_rfl)) (fun _ _ _ _ _ => (qv_name (i := 8) sc__law_webs.nd)) (fun _ _ _ _ _ => qts_nil) (fun _ _ _ _ _ => (qd_call D__law_caught hr hg tk_no (T.glo 29 rfl) (qa_cons qe_int (qa_cons (qv 8) qa_nil))))) (qe_lst (qa_cons qe_int (qa_cons qe_int (qa_cons qe_int (qa_cons qe_int qa_nil))))) (nomark _)))))))))))))))))))
def t_law (K : Frag) : TS' :=
  (sSeq (sSet 1 (eCall (sp__law_deck K) noW (eCons (eV 0) (eCons (eC (.int 120)) eNil))))
  (sSeq (sIf (tNot' (tB' (eCall (sp__law_webs K) noW (eCons (eSl (eV 1) oNo (oPart (eC (.int 60)))) eNil))))
    (sRet (eC (.bl false)))
    sNext)
  (sSeq (sSet 1 (eSl (eV 1) (oPart (eC (.int 60))) oNo))
  (sSeq (sSet 2 (eCall (sp__law_drawn K) noW (eCons (eV 1) (eCons (eBin rMod (eM isML rPop (eV 1) eNil) (eC (.int 5))) eNil))))
  (sSeq (sSet 3 (eCall (sp__law_places K) noW (eCons (eV 1) (eCons (eBin rMod (eM isML rPop (eV 1) eNil) (eC (.int 5))) eNil))))
  (sSeq (sFor (iSeq (eLst (eCons (eTup (eCons (eC (.int 1)) (eCons (eC (.str "branch")) eNil))) (eCons (eTup (eCons (eC (.int 2)) (eCons (eC (.str "flow")) eNil))) eNil)))) (gTuple 2 (gsCons (gN 4) (gsCons (gN 5) gsNil)))
    (sSeq (sSet 6 (eLc (iSeq (eV 2)) (gN 8) tYes' (eCall (sp__law_line K) noW (eCons (eV 5) (eCons (eV 8) eNil))) [8]))
    (sFor (iSeq (eBin rAdd (eCall (sp__law_wrong K) noW (eCons (eV 5) eNil)) (eLst (eCons (eC (.str "tie 0 1 1")) (eCons (eC (.str "side 0")) (eCons (eC (.str "places 2")) eNil)))))) (gN 7)
      (sSeq (sAsg (eCall (sp__law_put K) noW (eCons (eSl (eV 1) oNo (oPart (eC (.int 2)))) (eCons (eV 6) (eCons (eV 7) (eCons (eC (.int 0)) eNil))))) (gTuple 2 (gsCons (gN 9) (gsCons (gN 10) gsNil))))
      (sIf (tB' (eBin rNe (eCall (sp__law_caught K) noW (eCons (eV 4) (eCons (eV 9) eNil))) (eV 10)))
        (sRet (eC (.bl false)))
        sNext)))))
  (sSeq (sSet 6 (eLc (iSeq (eV 3)) (gN 11) tYes' (eM isS rJoin (eC (.str " ")) (eCons (eBin rAdd (eLst (eCons (eC (.str "side")) eNil)) (eLc (iSeq (eV 11)) (gN 12) tYes' (eB rStrI (eCons (eV 12) eNil)) [12])) eNil)) [11]))
  (sSeq (sSet 13 (eLst (eCons (eC (.str "side")) (eCons (eC (.str "sides 1")) (eCons (eC (.str "side 100")) (eCons (eC (.str "side 01")) (eCons (eC (.str "side 1 00")) (eCons (eC (.str "side a")) (eCons (eC (.str "side 1 1/2")) (eCons (eC (.str "1")) (eCons (eC (.str "side1")) (eCons (eC (.str "tie 0 1 1")) eNil))))))))))))
  (sSeq (sFor (iSeq (eBin rAdd (eV 13) (eLst (eCons (eC (.str "side 1 /")) eNil)))) (gN 7)
    (sSeq (sAsg (eCall (sp__law_put K) noW (eCons (eSl (eV 1) oNo (oPart (eC (.int 2)))) (eCons (eV 6) (eCons (eV 7) (eCons (eC (.int 0)) eNil))))) (gTuple 2 (gsCons (gN 9) (gsCons (gN 10) gsNil))))
    (sIf (tB' (eBin rNe (eCall (sp__law_caught K) noW (eCons (eC (.int 3)) (eCons (eV 9) eNil))) (eV 10)))
      (sRet (eC (.bl false)))
      sNext)))
  (sRet (eC (.bl true))))))))))))
theorem j_law {P : Program} {w : World} {K : Frag} {mg : Str → Option Value} {base : Heap} (T : Tx K mg) (D__law_deck : Def' P w K mg base 1 (He.ga K "_law_deck") ["_law_script", "_law_many"] (sp__law_deck K)) (D__law_webs : Def' P w K mg base 10 (He.ga K "_law_webs") ["_law_deck_here"] (sp__law_webs K)) (D__law_drawn : Def' P w K mg base 3 (He.ga K "_law_drawn") ["_law_deck_here", "_law_many"] (sp__law_drawn K)) (D__law_places : Def' P w K mg base 1 (He.ga K "_law_places") ["_law_deck_here", "_law_many"] (sp__law_places K)) (D__law_line : Def' P w K mg base 2 (He.ga K "_law_line") ["_law_word", "_law_row"] (sp__law_line K)) (D__law_wrong : Def' P w K mg base 1 (He.ga K "_law_wrong") ["_law_word"] (sp__law_wrong K)) (D__law_put : Def' P w K mg base 1 (He.ga K "_law_put") ["_law_deck_here", "_law_lines", "_law_wrong_here", "_law_first"] (sp__law_put K)) (D__law_caught : Def' P w K mg base 9 (He.ga K "_law_caught") ["_law_which", "_law_text"] (sp__law_caught K)) (cdv : Value) (A : Around) (outer : List Env) (s : Shared) (H : Hp) (E : XK) (hr : Room 10 (A.deeper (envOfC "law" (defScope s_law) s.heap.objs.size (He.ga K "law") cdv))) (hg : A.guards = some []) :
    QSs (cxOf (L2.CX P w) P w K mg base n_law "law" (defScope s_law) (He.ga K "law") cdv A outer s H E) (defBody s_law) (t_law K ) :=
  (qss_cons (qs_set (i := 1) sc_law.nd (qd_call D__law_deck hr hg tk_no (T.glo 21 rfl) (qa_cons (qv 0) (qa_cons qe_int qa_nil))))
  (qss_cons (qs_if (qt_not (qt_val (qd_call D__law_webs hr hg tk_no (T.glo 32 rfl) (qa_cons (qe_slice (qv 1) qo_none (qo_some qe_int)) qa_nil))))
    (qss_one (qs_ret qe_bl))
    qss_nil)
  (qss_cons (qs_set (i := 1) sc_law.nd (qe_slice (qv 1) (qo_some qe_int) qo_none))
  (qss_cons (qs_set (i := 2) sc_law.nd (qd_call D__law_drawn hr hg tk_no (T.glo 25 rfl) (qa_cons (qv 1) (qa_cons (qe_op o_mod (qm_pop (qv 1)) qe_int) qa_nil))))
  (qss_cons (qs_set (i := 3) sc_law.nd (qd_call D__law_places hr hg tk_no (T.glo 26 rfl) (qa_cons (qv 1) (qa_cons (qe_op o_mod (qm_pop (qv 1)) qe_int) qa_nil))))
  (qss_cons (qs_for (passes_of rfl) rfl (qi_seq (qe_lst (qa_cons (qe_tup (qa_cons qe_int (qa_cons qe_str qa_nil))) (qa_cons (qe_tup (qa_cons qe_int (qa_cons qe_str qa_nil))) qa_nil)))) (qg_tup rfl (qgs_cons (qg_name (i := 4) sc_law.nd) (qgs_cons (qg_name (i := 5) sc_law.nd) qgs_nil)))
    (qss_cons (qs_setLc (i := 6) rfl sc_law.nd (qi_seq (qv 2)) (own := [("_law_row", 8)]) (blk_ok (by kernel_rfl)) (fun _ _ _ _ _ => (qv_name (i := 8) sc_law.nd)) (fun _ _ _ _ _ => qts_nil) (fun _ _ _ _ _ => (qd_call D__law_line hr hg tk_no (T.glo 28 rfl) (qa_cons (qv 5) (qa_cons (qv 8) qa_nil)))))
    (qss_one (qs_for (passes_of rfl) rfl (qi_seq (qe_op o_add (qd_call D__law_wrong hr hg tk_no (T.glo 30 rfl) (qa_cons (qv 5) qa_nil)) (qe_lst (qa_cons qe_str (qa_cons qe_str (qa_cons qe_str qa_nil)))))) (qg_name (i := 7) sc_law.nd)
      (qss_cons (qs_asg (qd_call D__law_put hr hg tk_no (T.glo 31 rfl) (qa_cons (qe_slice (qv 1) qo_none (qo_some qe_int)) (qa_cons (qv 6) (qa_cons (qv 7) (qa_cons qe_int qa_nil))))) (qg_tup rfl (qgs_cons (qg_name (i := 9) sc_law.nd) (qgs_cons (qg_name (i := 10) sc_law.nd) qgs_nil))))
      (qss_one (qs_if (qt_cmp (o_ne hr.units) (qd_call D__law_caught hr hg tk_no (T.glo 29 rfl) (qa_cons (qv 4) (qa_cons (qv 9) qa_nil))) (qv 10) (nomark _))
        (qss_one (qs_ret qe_bl))
        qss_nil)))))))
  (qss_cons (qs_setLc (i := 6) rfl sc_law.nd (qi_seq (qv 3)) (own := [("_law_side", 11)]) (blk_ok (by kernel_rfl)) (fun _ _ _ _ _ => (qv_name (i := 11) sc_law.nd)) (fun _ _ _ _ _ => qts_nil) (fun _ _ _ _ _ => (qm_join qe_str (qe_op o_add (qe_lst (qa_cons qe_str qa_nil)) (qe_lc rfl sc_law.nd (qi_seq (qv 11)) (own := [("_law_place", 12)]) (blk_ok (by kernel_rfl)) (fun _ _ _ _ _ => (qv_name (i := 12) sc_law.nd)) (fun _ _ _ _ _ => qts_nil) (fun _ _ _ _ _ => (qe_T c_str (T.free 42 rfl) bb_str (qa_cons (qv 12) qa_nil))))))))
  (qss_cons (qs_set (i := 13) sc_law.nd (qe_lst (qa_cons qe_str (qa_cons qe_str (qa_cons qe_str (qa_cons qe_str (qa_cons qe_str (qa_cons qe_str (qa_cons qe_str (qa_cons qe_str (qa_cons qe_str (qa_cons qe_str qa_nil))))))))))))
  (qss_cons (qs_for (passes_of rfl) rfl (qi_seq (qe_op o_add (qv 13) (qe_lst (qa_cons qe_str qa_nil)))) (qg_name (i := 7) sc_law.nd)
    (qss_cons (qs_asg (qd_call D__law_put hr hg tk_no (T.glo 31 rfl) (qa_cons (qe_slice (qv 1) qo_none (qo_some qe_int)) (qa_cons (qv 6) (qa_cons (qv 7) (qa_cons qe_int qa_nil))))) (qg_tup rfl (qgs_cons (qg_name (i := 9) sc_law.nd) (qgs_cons (qg_name (i := 10) sc_law.nd) qgs_nil))))
    (qss_one (qs_if (qt_cmp (o_ne hr.units) (qd_call D__law_caught hr hg tk_no (T.glo 29 rfl) (qa_cons qe_int (qa_cons (qv 9) qa_nil))) (qv 10) (nomark _))
      (qss_one (qs_ret qe_bl))
      qss_nil))))
  (qss_one (qs_ret qe_bl)))))))))))
end Cw

set_option Elab.async false
set_option linter.all false
set_option maxRecDepth 100000
set_option maxHeartbeats 0
namespace Cw
open PySem PySem.Spec L2 L3
open PyProof.Rows hiding St
abbrev dd (q : QK) : Ends' := { nx := fun _ M' => Gz q .non M', rt := Gz q }
theorem r_is_whole {K us M q e} (h : sp_is_whole K us M q e) : t_is_whole K { nx := fun _ M' => Gz q .non M', rt := Gz q } (startU n_is_whole.length us) M := by
  obtain ⟨i, a, b, rfl, hq⟩ := h
  refine ⟨"int", rfl, okN_int, ?_⟩
  rw [isTy_int_int]
  refine ⟨"int", rfl, okN_int, ?_⟩
  rw [isTy_int_bool]
  refine ifB_dec (fun h1 => ?_) (fun h1 => ?_)
  · refine .here ?_
    have e : decide (a ≤ i ∧ i ≤ b) = decide (i ≤ b) := by simp [h1]
    rw [e] at hq
    exact hq
  · refine .here ?_
    have e : decide (a ≤ i ∧ i ≤ b) = false := by simp [h1]
    rw [e] at hq
    exact hq
theorem r_is_row {K us M q e} (h : sp_is_row K us M q e) : t_is_row K { nx := fun _ M' => Gz q .non M', rt := Gz q } (startU n_is_row.length us) M := by
  obtain ⟨u, rfl, hu⟩ := h
  refine ⟨by decide, .inr ?_⟩
  have key : ∀ t b, tyN M u = some t → (["list", "tuple"].any (isTy t)) = b → q (.bl b) M → ∃ t, tyN M u = some t ∧ ∃ ns, okTs [.ty "list", .ty "tuple"] = some ns ∧ Gz q (.bl (ns.any (isTy t))) M := by
    intro t b e1 e2 hq
    refine ⟨t, e1, ["list", "tuple"], by kernel_rfl, ?_⟩
    rw [e2]
    exact .here hq
  rcases hu with ⟨⟨i, rfl⟩, hq⟩ | ⟨hu, hq⟩
  · exact key "int" false rfl (by kernel_rfl) hq
  · obtain ⟨xs, hx⟩ := Option.isSome_iff_exists.mp hu
    rcases seqA_ty hx with e | e
    · exact key _ true e (by kernel_rfl) hq
    · exact key _ true e (by kernel_rfl) hq
theorem gcd_step (x y : Int) : Int.gcd y (x % y) = Int.gcd x y := by
  have e : x = x % y + (x / y) * y := by rw [Int.mul_comm, Int.emod_add_mul_ediv]
  have h := Int.gcd_add_mul_right_right y (x % y) (x / y)
  rw [← e] at h
  rw [← h, Int.gcd_comm]
theorem r_divisor {K us M q e} (h : sp_divisor K us M q e) : t_divisor K { nx := fun _ M' => Gz q .non M', rt := Gz q } (startU n_divisor.length us) M := by
  obtain ⟨a, b, rfl, ha, hb, hq⟩ := h
  refine ⟨fun n z M' => M' = M ∧ ∃ x y : Int, z = [some (.int x), some (.int y)] ∧ 0 ≤ x ∧ 0 ≤ y ∧ n = y.toNat ∧ Int.gcd x y = Int.gcd a b, ⟨b.toNat, rfl, a, b, rfl, ha, hb, rfl, rfl⟩, ?_⟩
  rintro n z M' ⟨rfl, x, y, rfl, hx, hy, rfl, hg⟩
  refine ifB_dec (fun h1 => ?_) (fun h1 => ?_)
  · refine ⟨h1, ?_⟩
    have h1' : 0 < y := h1
    refine ⟨(x % y).toNat, ?_, rfl, y, x % y, rfl, hy, Int.emod_nonneg _ (by omega), rfl, ?_⟩
    · have := Int.emod_lt_of_pos x h1'
      have := Int.emod_nonneg x (show y ≠ 0 by omega)
      omega
    · rw [← hg, gcd_step]
  · have : y = 0 := by have h1' : ¬ 0 < y := h1; omega
    subst this
    refine .here ?_
    have e : ((Int.gcd a b : Nat) : Int) = x := by rw [← hg, Int.gcd_zero]; omega
    show q (.int x) M'
    rw [← e]
    exact hq
theorem r_as_tuples {K us M q e} (n : Nat) (sp : Sp') (hn : ∀ m, n = m + 1 → sp = sp_as_tuples m K) (h : sp_as_tuples n K us M q e) : t_as_tuples K sp { nx := fun _ M' => Gz q .non M', rt := Gz q } (startU n_as_tuples.length us) M := by
  obtain ⟨u, rfl, hd, hq⟩ := h
  have int : ∀ i, u = .int i → t_as_tuples K sp { nx := fun _ M' => Gz q .non M', rt := Gz q } (startU n_as_tuples.length [u]) M := by
    rintro i rfl
    refine ⟨_, rfl, .inl ⟨⟨i, rfl⟩, ?_⟩⟩
    have e : asT n (.int i) = .int i := by cases n <;> rfl
    rw [e] at hq
    exact Gz.here hq
  cases n with
  | zero =>
    obtain ⟨i, rfl⟩ := hd
    exact int i rfl
  | succ n =>
    rcases hd with ⟨i, rfl⟩ | ⟨xs, hx, hl, hxs⟩
    · exact int i rfl
    · refine ⟨_, rfl, .inr ⟨by rw [seqF_A hx]; rfl, ?_⟩⟩
      refine seqF_iter hx fun side hs => ?_
      rw [hn n rfl]
      refine lc_map (asT n) (fun M' _ => hs M') hl (fun x hx' M' _ k hk => ⟨x, rfl, hxs x hx', hk⟩) ?_
      refine ⟨_, rfl, .here ?_⟩
      have e : asT (n + 1) u = .tup (xs.map (asT n)) := by show (match seqF u with | some xs => U.tup (xs.map (asT n)) | none => u) = _; rw [hx]
      rw [e] at hq
      exact hq
theorem r_is_amount {K us M q e} (h : sp_is_amount K us M q e) : t_is_amount K { nx := fun _ M' => Gz q .non M', rt := Gz q } (startU n_is_amount.length us) M := by
  obtain ⟨u, a, b, rfl, ha, hq⟩ := h
  refine ⟨_, rfl, .inr ⟨by rw [seqF_A ha]; rfl, ?_⟩⟩
  refine ⟨2, seqF_len ha, by decide, ?_⟩
  refine seqF_iter ha fun side hs => ?_
  refine ⟨fun i z M' => M' = M ∧ ∃ o, z = [some u, o], ⟨rfl, none, rfl⟩, fun _ _ M' _ => hs M', ?_, ?_⟩
  · rintro i x z M' hx ⟨rfl, o, rfl⟩
    have hi : ∃ k : Int, x = .int k := by
      match i, hx with
      | 0, hx => exact ⟨a, by simpa using hx.symm⟩
      | 1, hx => exact ⟨b, by simpa using hx.symm⟩
    obtain ⟨k, rfl⟩ := hi
    refine ⟨"int", rfl, okN_int, ?_⟩
    rw [isTy_int_int]
    refine ⟨"int", rfl, okN_int, ?_⟩
    rw [isTy_int_bool]
    exact ⟨rfl, _, rfl⟩
  · rintro z M' ⟨rfl, o, rfl⟩
    refine seqF_ix ha (i := 0) (v := .int a) rfl ?_
    refine ifB_dec (fun h1 => ?_) (fun h1 => ?_)
    · refine seqF_ix ha (i := 1) (v := .int b) rfl ?_
      refine ifB_dec (fun h2 => ?_) (fun h2 => ?_)
      · refine seqF_ix ha (i := 0) (v := .int a) rfl ?_
        refine seqF_ix ha (i := 1) (v := .int b) rfl ?_
        refine ⟨a, b, rfl, h1, Int.le_trans (by decide) h2, .here ?_⟩
        have e : decide (0 ≤ a ∧ 1 ≤ b ∧ Int.gcd a b = 1) = decide (((Int.gcd a b : Nat) : Int) = 1) := by
          have h1' : 0 ≤ a := h1
          have h2' : 1 ≤ b := h2
          simp only [h1', h2', true_and]
          exact decide_eq_decide.mpr (by omega)
        rw [e] at hq
        exact hq
      · have h2' : ¬ 1 ≤ b := h2
        refine .here ?_
        rw [show decide (0 ≤ a ∧ 1 ≤ b ∧ Int.gcd a b = 1) = false by simp [h2']] at hq
        exact hq
    · have h1' : ¬ 0 ≤ a := h1
      refine .here ?_
      rw [show decide (0 ≤ a ∧ 1 ≤ b ∧ Int.gcd a b = 1) = false by simp [h1']] at hq
      exact hq
theorem r_is_weight {K us M q e} (h : sp_is_weight K us M q e) : t_is_weight K { nx := fun _ M' => Gz q .non M', rt := Gz q } (startU n_is_weight.length us) M := by
  obtain ⟨u, a, b, rfl, ha, hq⟩ := h
  refine ⟨u, a, b, rfl, ha, ?_⟩
  refine ifB_dec (fun h1 => ?_) (fun h1 => ?_)
  · refine seqF_ix ha (i := 0) (v := .int a) rfl ?_
    refine ifB_dec (fun h2 => ?_) (fun h2 => ?_)
    · refine seqF_ix ha (i := 1) (v := .int b) rfl ?_
      refine ⟨by show (0 : Int) < b; omega, .here ?_⟩
      have e : decide (isW a b) = decide (55440 % b = 0) := by
        have h2' : a ≤ 1000000000000 := h2
        simp [isW, h1, h2']
      rw [e] at hq
      exact hq
    · have h2' : ¬ a ≤ 1000000000000 := h2
      refine .here ?_
      rw [show decide (isW a b) = false by simp [isW, h2']] at hq
      exact hq
  · refine .here ?_
    have e : decide (isW a b) = false := by
      refine decide_eq_false fun z => h1 ⟨z.1, z.2.1, z.2.2.1⟩
    rw [e] at hq
    exact hq
theorem r_are_places {K us M q e} (h : sp_are_places K us M q e) : t_are_places K { nx := fun _ M' => Gz q .non M', rt := Gz q } (startU n_are_places.length us) M := by
  obtain ⟨n, i, j, rfl, hq⟩ := h
  refine ⟨i, 0, n - 1, rfl, ?_⟩
  refine ifB_dec (fun h1 => ?_) (fun h1 => ?_)
  · refine ⟨j, 0, n - 1, rfl, ?_⟩
    refine ifB_dec (fun h2 => ?_) (fun h2 => ?_)
    · refine .here ?_
      have e : decide (0 ≤ i ∧ i < n ∧ 0 ≤ j ∧ j < n ∧ i ≠ j) = (!decide (i = j)) := by
        rw [← decide_not]
        exact decide_eq_decide.mpr ⟨fun z => z.2.2.2.2, fun z => ⟨h1.1, by omega, h2.1, by omega, z⟩⟩
      rw [e] at hq
      exact hq
    · refine .here ?_
      rw [show decide (0 ≤ i ∧ i < n ∧ 0 ≤ j ∧ j < n ∧ i ≠ j) = false from decide_eq_false fun z => h2 ⟨z.2.2.1, by omega⟩] at hq
      exact hq
  · refine .here ?_
    rw [show decide (0 ≤ i ∧ i < n ∧ 0 ≤ j ∧ j < n ∧ i ≠ j) = false from decide_eq_false fun z => h1 ⟨z.1, by omega⟩] at hq
    exact hq
theorem r_is_tie {K us M q e} (h : sp_is_tie K us M q e) : t_is_tie K { nx := fun _ M' => Gz q .non M', rt := Gz q } (startU n_is_tie.length us) M := by
  obtain ⟨n, u, r, rfl, ⟨w, hu, hw⟩, hq⟩ := h
  refine ⟨_, rfl, .inr ⟨by rw [seqF_A hu]; rfl, ?_⟩⟩
  refine ⟨3, seqF_len hu, by decide, ?_⟩
  refine seqF_ix hu (i := 0) (v := .int r.i) rfl ?_
  refine seqF_ix hu (i := 1) (v := .int r.j) rfl ?_
  refine ⟨n, r.i, r.j, rfl, ?_⟩
  have go : ∀ p : Prop, ∀ _ : Decidable p, ((0 ≤ r.i ∧ r.i < r.j ∧ r.j < n ∧ isW r.a r.b) ↔ p) → Gz q (.bl (decide p)) M := fun p _ e => .here (by
    have e' : decide (0 ≤ r.i ∧ r.i < r.j ∧ r.j < n ∧ isW r.a r.b) = decide p := decide_eq_decide.mpr e
    rw [← e']; exact hq)
  by_cases h1 : 0 ≤ r.i ∧ r.i < n ∧ 0 ≤ r.j ∧ r.j < n ∧ r.i ≠ r.j
  · rw [decide_eq_true h1]
    refine seqF_ix hu (i := 0) (v := .int r.i) rfl ?_
    refine seqF_ix hu (i := 1) (v := .int r.j) rfl ?_
    refine ifB_dec (fun h2 => ?_) (fun h2 => ?_)
    · refine seqF_ix hu (i := 2) (v := w) rfl ?_
      refine ⟨w, r.a, r.b, rfl, hw, go _ _ ⟨fun z => z.2.2.2, fun z => ⟨h1.1, h2, h1.2.2.2.1, z⟩⟩⟩
    · exact go False _ ⟨fun z => h2 z.2.1, fun z => z.elim⟩
  · rw [decide_eq_false h1]
    exact go False _ ⟨fun z => h1 ⟨z.1, by omega, by omega, z.2.2.1, by omega⟩, fun z => z.elim⟩
end Cw

set_option Elab.async false
set_option linter.all false
set_option maxRecDepth 100000
set_option maxHeartbeats 0
namespace Cw
open PySem PySem.Spec L2 L3
open PyProof.Rows hiding St
theorem keyT_inj {r s : Row} (h : keyT r = keyT s) : keyR r = keyR s := by
  unfold keyT at h
  injection h with h
  injection h with h1 h2
  injection h2 with h2 _
  injection h1 with h1
  injection h2 with h2
  unfold keyR
  rw [h1, h2]
theorem row_at {rs : List Row} (nd : (rs.map keyR).Nodup) {r s : Row} (hr : r ∈ rs) (hs : s ∈ rs) (e : keyR r = keyR s) : r = s := by
  obtain ⟨i, hi, rfl⟩ := List.mem_iff_getElem.mp hr
  obtain ⟨j, hj, rfl⟩ := List.mem_iff_getElem.mp hs
  have h := List.getElem_inj (h₀ := by simpa using hi) (h₁ := by simpa using hj) nd (i := i) (j := j)
  have : i = j := by
    apply h.mp
    simpa using e
  subst this
  rfl
theorem r_wrong_tie {K us M q e} (h : sp_wrong_tie K us M q e) : t_wrong_tie K { nx := fun _ M' => Gz q .non M', rt := Gz q } (startU n_wrong_tie.length us) M := by
  obtain ⟨n, u, xs, rs, rfl, hx, hl, hp, ok, nd, hq⟩ := h
  refine ⟨_, rfl, .inr ⟨by rw [seqL_A hx]; rfl, ?_⟩⟩
  refine .inr fun p np => ?_
  refine ⟨xs, (L3.Sub.put np).seqL hx, ?_⟩
  refine ⟨fun i z M' => ∃ o3 o4, z = [some (.int n), some u, some (.ref p), o3, o4] ∧ Sub M M' ∧ M' p = some (.dic true false ((rs.take i).map fun r => (keyT r, U.bl true))),
    ⟨none, none, rfl, .put np, by rw [put_same]; rfl⟩, fun _ _ M' ⟨_, _, _, hs, _⟩ => hs.seqL hx, ?_, ?_⟩
  · rintro i x z M' hx ⟨o3, o4, rfl, hs, hM⟩
    obtain ⟨y, hy, rfl⟩ := enumU_get hx
    obtain ⟨r, hr, w, hu, hw⟩ := pd_get hp hy
    have hri : i < rs.length := (List.getElem?_eq_some_iff.mp hr).1
    have hrm : r ∈ rs := List.mem_of_getElem? hr
    refine seqF_unp rfl rfl ?_
    refine ⟨n, y, r, rfl, ⟨w, hu, hw⟩, ?_⟩
    rw [decide_eq_true (show 0 ≤ r.i ∧ r.i < r.j ∧ r.j < n ∧ isW r.a r.b from ok r hrm)]
    refine seqF_ix hu (i := 0) (v := .int r.i) rfl ?_
    refine seqF_ix hu (i := 1) (v := .int r.j) rfl ?_
    refine ⟨le2, .inr ?_⟩
    have hno : dlook ((rs.take i).map fun r => (keyT r, U.bl true)) (keyT r) = none := by
      refine dlook_map_none fun s hs' e => ?_
      obtain ⟨j, hj, e1⟩ := List.mem_iff_getElem.mp hs'
      rw [List.length_take] at hj
      rw [List.getElem_take] at e1
      have h := List.getElem_inj (h₀ := by simpa using (show j < rs.length by omega)) (h₁ := by simpa using hri) nd (i := j) (j := i)
      have : j = i := by
        apply h.mp
        have e2 : rs[i] = r := by
          have := List.getElem?_eq_some_iff.mp hr
          exact this.2
        simp only [List.getElem_map]
        rw [e1, e2]
        exact keyT_inj e
      omega
    refine in_dic hM rfl ?_
    rw [show dlook ((rs.take i).map fun r => (keyT r, U.bl true)) (U.kt [.int r.i, .int r.j]) = none from hno]
    refine seqF_ix hu (i := 0) (v := .int r.i) rfl ?_
    refine seqF_ix hu (i := 1) (v := .int r.j) rfl ?_
    refine ⟨le2, .inr ?_⟩
    refine asL_dic hM ⟨rfl, rfl, ?_, _, _, rfl, hs.put_new np, ?_⟩
    · rw [List.length_map, List.length_take]
      have := hp.length
      have : (100000 : Nat) < sizeLine := by decide
      omega
    · rw [put_same, show dput ((rs.take i).map fun r => (keyT r, U.bl true)) (U.kt [.int r.i, .int r.j]) (.bl true) = _ from dput_new hno, List.take_add_one, hr, List.map_append]
      rfl
  · rintro z M' ⟨o3, o4, rfl, hs, hM⟩
    exact .here (hq M' hs)
def wf (x : U) : U := match seqF x with
  | some [i, j, w] => .tup [.kt [i, j], asT 1 w]
  | _ => x
theorem wf_eq (x : U) (r : Row) (h : isR x r) : wf x = .tup [keyT r, amU r] := by
  obtain ⟨w, hu, hw⟩ := h
  unfold wf
  rw [hu]
  show U.tup [.kt [.int r.i, .int r.j], (match seqF w with | some xs => U.tup (xs.map (asT 0)) | none => w)] = _
  rw [show seqF w = _ from hw]
  rfl
theorem pairR_keys (rs : List Row) : (rs.map pairR).map (·.1) = rs.map keyT := by rw [List.map_map]; rfl
theorem keyT_nodup {rs : List Row} (nd : (rs.map keyR).Nodup) : (rs.map keyT).Nodup := by
  rw [List.nodup_iff_pairwise_ne, List.pairwise_map] at *
  exact nd.imp fun h e => h (keyT_inj e)
theorem r_weights_in {K us M q e} (h : sp_weights_in K us M q e) : t_weights_in K { nx := fun _ M' => Gz q .non M', rt := Gz q } (startU n_weights_in.length us) M := by
  obtain ⟨u, xs, rs, rfl, hx, hl, hp, nd, hq⟩ := h
  refine seqL_iter hx ?_
  have hz : (100000 : Nat) < sizeLine := by decide
  refine lc_map wf (fun M' hs => hs.seqL hx) (by omega) (fun x hx' M' _ k hk => ?_) ?_
  · obtain ⟨r, hr, hR⟩ := pd_mem hp hx'
    rw [wf_eq x r hR] at hk
    obtain ⟨w, hu, hw⟩ := hR
    refine seqF_unp hu rfl ?_
    refine ⟨le2, .inr ?_⟩
    refine ⟨w, rfl, .inr ⟨_, hw, le2, fun y hy => ?_⟩, ?_⟩
    · rcases List.mem_cons.mp hy with rfl | hy
      · exact ⟨_, rfl⟩
      · rcases List.mem_cons.mp hy with rfl | hy
        · exact ⟨_, rfl⟩
        · simp at hy
    · refine ⟨le2, .inl ?_⟩
      have e : asT 1 w = amU r := by
        show (match seqF w with | some xs => U.tup (xs.map (asT 0)) | none => w) = _
        rw [show seqF w = _ from hw]
        rfl
      rw [e]
      exact hk
  · rw [pd_map wf_eq hp]
    refine ⟨_, rs.map pairR, rfl, pairsU_map rs, true, fun p hp' => ?_, fun p np => ?_⟩
    · obtain ⟨r, _, rfl⟩ := List.mem_map.mp hp'; rfl
    · refine .here (hq p _ (.put np) np ?_)
      rw [put_same, mergeU_nodup _ _ (by rw [List.map_nil, List.nil_append, pairR_keys]; exact keyT_nodup nd)]
      rfl
/-- what is told of a web -/
def pf (kvs : List (U × U)) (k : U) : Option U := match dlook kvs k with
  | some (.tup [.int a, .int b]) => if a = 0 ∧ b = 1 then none else some (.tup [k, .tup [.int a, .int b]])
  | _ => none
theorem told_mem {rs : List Row} {r : Row} (h : r ∈ rs.mergeSort leR) : r ∈ rs := (List.mergeSort_perm rs leR).mem_iff.mp h
theorem told_keys {rs : List Row} (nd : (rs.map keyR).Nodup) : ((told rs).map keyR).Nodup := by
  have h1 : ((rs.mergeSort leR).map keyR).Nodup := ((List.mergeSort_perm rs leR).map keyR).nodup_iff.mpr nd
  exact h1.sublist ((List.filter_sublist).map keyR)
theorem told_len (rs : List Row) : (told rs).length ≤ rs.length := by
  unfold told
  exact Nat.le_trans (List.length_filter_le _ _) (by rw [List.length_mergeSort]; exact Nat.le_refl _)
theorem r_put_weights {K us M q e} (aw : At K (He.ga K "Web") "weights") (at_ : At K (He.ga K "Web") "ties") (h : sp_put_weights K us M q e) : t_put_weights K { nx := fun _ M' => Gz q .non M', rt := Gz q } (startU n_put_weights.length us) M := by
  obtain ⟨x, d, fs, rs, rfl, hx, hd, hfl, hl, nd, hq⟩ := h
  have hz : (100000 : Nat) < sizeLine := by decide
  have hxd : x ≠ d := ref_ne_of hx hd (by simp)
  refine .inr ⟨d, true, false, _, rfl, hd, ?_, .inl ?_⟩
  · rw [pairR_keys]; exact sortOk_ii Row.i Row.j rs
  · rw [pairR_keys, show sortU (rs.map keyT) = (rs.mergeSort leR).map keyT from sortU_ii Row.i Row.j rs]
    refine seqF_iter rfl fun side hs => ?_
    refine lc_pure (pf (rs.map pairR)) (fun M' _ => hs M') (by rw [List.length_map, List.length_mergeSort]; omega) (fun k hk M' sub k1 k0 h1 h0 => ?_) ?_
    · obtain ⟨r, hr, rfl⟩ := List.mem_map.mp hk
      have hrm := told_mem hr
      have hv : dlook (rs.map pairR) (keyT r) = some (amU r) := dlook_map_some (key := keyT) (val := amU) hrm fun s hs e => by rw [row_at nd hs hrm (keyT_inj e)]
      have hd' := sub _ _ hd
      have e : pf (rs.map pairR) (keyT r) = if r.a = 0 ∧ r.b = 1 then none else some (.tup [keyT r, amU r]) := by unfold pf; rw [hv]; rfl
      refine ix_dic hd' rfl hv ?_
      refine eq_ii (f := not) ?_
      by_cases hn : r.a = 0 ∧ r.b = 1
      · rw [decide_eq_true hn]
        rw [if_pos hn] at e
        exact h0 e
      · rw [decide_eq_false hn]
        rw [if_neg hn] at e
        refine ix_dic hd' rfl hv ?_
        exact ⟨le2, .inl (h1 _ e)⟩
    · have ef : ((rs.mergeSort leR).map keyT).filterMap (pf (rs.map pairR)) = (told rs).map fun r => .tup [keyT r, amU r] := by
        unfold told
        have gen : ∀ l : List Row, (∀ r ∈ l, r ∈ rs) → (l.map keyT).filterMap (pf (rs.map pairR)) = (l.filter nz).map fun r => U.tup [keyT r, amU r] := by
          intro l hl
          induction l with
          | nil => rfl
          | cons r l ih =>
            have hrm := hl r (List.mem_cons_self ..)
            have hv : dlook (rs.map pairR) (keyT r) = some (amU r) := dlook_map_some (key := keyT) (val := amU) hrm fun s hs e => by rw [row_at nd hs hrm (keyT_inj e)]
            have e : pf (rs.map pairR) (keyT r) = if r.a = 0 ∧ r.b = 1 then none else some (.tup [keyT r, amU r]) := by unfold pf; rw [hv]; rfl
            have ih' := ih fun s hs => hl s (List.mem_cons_of_mem _ hs)
            rw [List.map_cons, List.filterMap_cons, e]
            by_cases hn : r.a = 0 ∧ r.b = 1
            · rw [if_pos hn, List.filter_cons_of_neg (by simp [nz, hn])]
              exact ih'
            · rw [if_neg hn, List.filter_cons_of_pos (by simp only [nz, decide_eq_true_eq]; exact hn), List.map_cons, ← ih']
        exact gen _ fun r hr => told_mem hr
      rw [ef]
      -- web.weights = dict(told)
      refine ⟨_, (told rs).map pairR, rfl, pairsU_map (told rs), true, fun p hp' => ?_, fun p np => ?_⟩
      · obtain ⟨r, _, rfl⟩ := List.mem_map.mp hp'; rfl
      · have hxp : x ≠ p := mne hx np
        refine ⟨x, _, fs, rfl, by rw [put_ne hxp]; exact hx, aw, by omega, ?_⟩
        -- web.ties
        refine seqF_iter rfl fun side hs => ?_
        refine lc_map (fun y => match y with
          | .tup [.kt [i, j], w] => .tup [i, j, w]
          | y => y) (fun M' _ => hs M') (by rw [List.length_map]; have := told_len rs; omega) (fun y hy M' _ k hk => ?_) ?_
        · obtain ⟨r, _, rfl⟩ := List.mem_map.mp hy
          refine seqF_unp rfl rfl ?_
          refine seqF_ix rfl (i := 0) (v := .int r.i) rfl ?_
          refine seqF_ix rfl (i := 1) (v := .int r.j) rfl ?_
          exact ⟨le3, .inl hk⟩
        · refine ⟨_, rfl, ?_⟩
          have kxp : (fs.length ≤ 10) := hfl
          refine ⟨x, _, _, rfl, put_same, at_, ?_, ?_⟩
          · have := putU_len "weights" (.ref p) fs
            omega
          · rw [put_put]
            refine .here (hq p _ ?_ ?_ ?_)
            · intro b o hb eb
              rw [put_ne hb]
              exact (Sub.put np) b o eb
            · rw [put_same, List.map_map]
              rfl
            · rw [put_ne (Ne.symm hxp), put_same, mergeU_nodup _ _ (by rw [List.map_nil, List.nil_append, pairR_keys]; exact keyT_nodup (told_keys nd))]
              rfl
theorem r_Web_init {K us M q e} (am : At K (He.ga K "Web") "many") (aw : At K (He.ga K "Web") "weights") (at_ : At K (He.ga K "Web") "ties") (h : sp_Web_init K us M q e) : t_Web_init K { nx := fun _ M' => Gz q .non M', rt := Gz q } (startU n_Web_init.length us) M := by
  obtain ⟨x, n, u, xs, rs, rfl, hx, h1, h40, hu, hl, hp, ok, nd, hq⟩ := h
  refine ⟨n, 1, 40, rfl, ?_⟩
  rw [decide_eq_true (⟨h1, h40⟩ : 1 ≤ n ∧ n ≤ 40)]
  refine ⟨n, u, xs, rs, rfl, hu, hl, hp, ok, nd, fun M1 s1 => ?_⟩
  have hx1 := s1 _ _ hx
  refine ⟨x, _, _, rfl, hx1, am, by decide, ?_⟩
  refine .inr fun p np => ?_
  have hxp : x ≠ p := by
    intro e; rw [e, put_same] at np; cases np
  have l1 := putU_len "many" (.int n) []
  have l2 := putU_len "weights" (.ref p) (putU "many" (.int n) [])
  have l3 := putU_len "ties" (.tup []) (putU "weights" (.ref p) (putU "many" (.int n) []))
  simp only [List.length_nil] at l1
  refine ⟨x, _, _, rfl, by rw [put_ne hxp, put_same], aw, by omega, ?_⟩
  refine ⟨by decide, .inl ?_⟩
  refine ⟨x, _, _, rfl, put_same, at_, by omega, ?_⟩
  have hu' := s1.seqL hu
  have np' : M1 p = none := by rw [put_ne (Ne.symm hxp)] at np; exact np
  have kx : Keep x M1 (put (put (put (put M1 x (.ins (He.ga K "Web") (putU "many" (.int n) []))) p (.dic true false [])) x (.ins (He.ga K "Web") (putU "weights" (.ref p) (putU "many" (.int n) [])))) x (.ins (He.ga K "Web") (putU "ties" (.tup []) (putU "weights" (.ref p) (putU "many" (.int n) []))))) := by
    intro b o hb eb
    rw [put_ne hb, put_ne hb, put_ne (mne eb np'), put_ne hb]
    exact eb
  refine ⟨u, xs, rs, rfl, kx.seqL hu' (fun ys e => by rw [hx1] at e; cases e), hl, hp, nd, fun d M2 s2 nd2 hd => ?_⟩
  refine ⟨x, d, _, rs, rfl, s2 _ _ put_same, hd, by omega, by rw [← hp.length]; exact hl, nd, fun p' M3 k3 hx3 hp3 => ?_⟩
  refine .here (hq M3 ?_ ⟨p', ?_, hp3⟩)
  · intro b o hb eb
    refine k3 b o hb (s2 b o ?_)
    have np' : M1 p = none := by rw [put_ne (Ne.symm hxp)] at np; exact np
    rw [put_ne hb, put_ne hb, put_ne (mne (s1 _ _ eb) np'), put_ne hb]
    exact s1 _ _ eb
  · rw [hx3]
    rfl
end Cw

set_option Elab.async false
set_option linter.all false
set_option maxRecDepth 100000
set_option maxHeartbeats 0
namespace Cw
open PySem PySem.Spec L2 L3
open PyProof.Rows hiding St
theorem sT_len {i : Int} (h : small i) : (sT i).length ≤ 1921 := len_int h
theorem amTxt_len {a b : Int} (ha : small a) (hb : small b) : (amTxt a b).length ≤ 3843 := by
  have h1 := sT_len ha
  have h2 := sT_len hb
  have e : (("/" : Str)).length = 1 := rfl
  unfold amTxt
  split
  · omega
  · rw [PySem.Str.length_append, PySem.Str.length_append, e]
    omega
theorem l_sp : ((" " : Str)).length = 1 := rfl
theorem l_nl : (("\n" : Str)).length = 1 := rfl
theorem rowTxt_len {w : Str} {r : Row} (hw : w.length ≤ 100) (hr : smallR r) : (rowTxt w r).length ≤ 8000 := by
  have h1 := sT_len hr.1
  have h2 := sT_len hr.2.1
  have h3 := amTxt_len hr.2.2.1 hr.2.2.2
  unfold rowTxt
  simp only [PySem.Str.length_append, l_sp, l_nl]
  omega
theorem size16 : (16777216 : Nat) = sizeLine := by decide
end Cw

set_option Elab.async false
set_option linter.all false
set_option maxRecDepth 100000
set_option maxHeartbeats 0
namespace Cw
open PySem PySem.Spec L2 L3
open PyProof.Rows hiding St
theorem r__law_number {K us M q e} (h : sp__law_number K us M q e) : t__law_number K { nx := fun _ M' => Gz q .non M', rt := Gz q } (startU n__law_number.length us) M := by
  obtain ⟨a, b, rfl, ha, hb, hq⟩ := h
  have h1 := sT_len ha
  have h2 := sT_len hb
  have h3 := size16
  refine seqF_ix rfl (i := 1) (v := .int b) rfl ?_
  refine ifB_dec (fun hb1 => ?_) (fun hb1 => ?_)
  · refine seqF_ix rfl (i := 0) (v := .int a) rfl ?_
    refine ⟨ha, .here ?_⟩
    have e : amTxt a b = sT a := if_pos hb1
    rw [e] at hq
    exact hq
  · refine seqF_ix rfl (i := 0) (v := .int a) rfl ?_
    refine ⟨ha, ?_⟩
    refine ⟨by show (sT a).length + 1 ≤ sizeLine; omega, ?_⟩
    refine seqF_ix rfl (i := 1) (v := .int b) rfl ?_
    refine ⟨hb, ?_⟩
    refine ⟨by show (sT a ++ ("/" : Str)).length + (sT b).length ≤ sizeLine; rw [PySem.Str.length_append, show (("/" : Str)).length = 1 from rfl]; omega, .here ?_⟩
    have e : amTxt a b = sT a ++ "/" ++ sT b := if_neg hb1
    rw [e] at hq
    exact hq
theorem r__law_lowest {K us M q e} (h : sp__law_lowest K us M q e) : t__law_lowest K { nx := fun _ M' => Gz q .non M', rt := Gz q } (startU n__law_lowest.length us) M := by
  obtain ⟨a, b, rfl, ha, hb, hb1, hq⟩ := h
  refine ⟨fun n z M' => M' = M ∧ ∃ x y : Int, z = [some (.int a), some (.int b), some (.int x), some (.int y)] ∧ 0 ≤ x ∧ 0 ≤ y ∧ n = y.toNat ∧ Int.gcd x y = Int.gcd a b, ⟨b.toNat, rfl, a, b, rfl, ha.1, hb.1, rfl, rfl⟩, ?_⟩
  rintro n z M' ⟨rfl, x, y, rfl, hx, hy, rfl, hg⟩
  refine ifB_dec (fun h1 => ?_) (fun h1 => ?_)
  · refine ⟨h1, ?_⟩
    have h1' : 0 < y := h1
    refine ⟨(x % y).toNat, ?_, rfl, y, x % y, rfl, hy, Int.emod_nonneg _ (by omega), rfl, ?_⟩
    · have := Int.emod_lt_of_pos x h1'
      have := Int.emod_nonneg x (show y ≠ 0 by omega)
      omega
    · rw [← hg, gcd_step]
  · have : y = 0 := by have h1' : ¬ 0 < y := h1; omega
    subst this
    have e : x = ((Int.gcd a b : Nat) : Int) := by rw [← hg, Int.gcd_zero]; omega
    have hg0 : 0 < Int.gcd a b := Int.gcd_pos_of_ne_zero_right _ (by omega)
    have hx0 : 0 < x := by omega
    have hxb : x ≤ b := by
      rw [e]
      exact Int.le_of_dvd (by omega) (Int.gcd_dvd_right _ _)
    have hlog : x.natAbs.log2 < 9000 := by
      have : x.natAbs < 2 ^ 200 := by have := hb.2; omega
      have := log2_of_lt this (by decide)
      omega
    refine ⟨⟨hx0, hlog⟩, ?_⟩
    refine ⟨⟨hx0, hlog⟩, ?_⟩
    have bd : ∀ c : Int, big c → big (c / x) := fun c hc => ⟨Int.ediv_nonneg hc.1 (by omega), Int.lt_of_le_of_lt (Int.ediv_le_self _ hc.1) hc.2⟩
    refine ⟨le2, .inl (.here (hq (a / x) (b / x) (bd a ha) (bd b hb) ?_ ?_))⟩
    · have : 1 ≤ b / x := by
        have := Int.ediv_le_ediv hx0 hxb
        rwa [Int.ediv_self (by omega)] at this
      exact this
    · rw [e]
      have h := Int.gcd_ediv_gcd_ediv_gcd (i := a) (j := b) (by omega)
      exact h
theorem p0 {n : Int} (h : decide (0 < n) = true) : 0 < n := of_decide_eq_true h
theorem szs {n : Nat} (h : Nat.ble n 1000 = true) : n ≤ sizeLine := by
  have := Nat.le_of_ble_eq_true h
  have := size16
  omega
theorem pick_lst {l : List U} {M : Mp} {q : QK} {i : Int} (h0 : 0 ≤ i) (h1 : i < l.length) (hq : ∀ v ∈ l, q v M) : rIx (.lst l) (.int i) M q := by
  obtain ⟨v, hv, e⟩ := atI_mem h0 h1
  exact seqF_ix rfl e (hq v hv)
theorem mod_ok {i j : Int} (hj : 0 < j) : 0 ≤ i % j ∧ i % j < j := ⟨Int.emod_nonneg _ (by omega), Int.emod_lt_of_pos _ hj⟩
theorem pow30 : CPow 10 30 := ⟨by decide, by decide, by decide⟩
theorem pow12 : CPow 10 12 := ⟨by decide, by decide, by decide⟩
theorem div_ok {j : Int} (h : 0 < j) (h2 : j < 1000000000000) (i : Int) : CDivW i j := by
  refine ⟨h, ?_⟩
  have : j.natAbs < 2 ^ 100 := by omega
  have := log2_of_lt this (by decide)
  omega
theorem r__law_any {K us M q e} (h : sp__law_any K us M q e) : t__law_any K { nx := fun _ M' => Gz q .non M', rt := Gz q } (startU n__law_any.length us) M := by
  obtain ⟨d, n, rfl, hd, hq⟩ := h
  refine pop_dk (d := d) (n := n + 1) hd fun y M1 hy0 hy1 hd1 k1 => ?_
  refine pop_dk (d := d) (n := n) hd1 fun x M2 hx0 hx1 hd2 k2 => ?_
  have m7 : ∀ j : Int, 0 < j → 0 ≤ y / 7 % j ∧ y / 7 % j < j := fun j hj => mod_ok hj
  have m5 : ∀ j : Int, 0 < j → 0 ≤ x / 5 % j ∧ x / 5 % j < j := fun j hj => mod_ok hj
  refine ⟨div_ok (by decide) (by decide) y, p0 rfl, ?_⟩
  refine ⟨div_ok (by decide) (by decide) y, p0 rfl, ?_⟩
  refine ⟨pow30, ?_⟩
  refine ⟨div_ok (by decide) (by decide) y, p0 rfl, ?_⟩
  refine ⟨pow12, ?_⟩
  refine ⟨mulOk (by omega) (by omega), ?_⟩
  refine ⟨szs rfl, .inl ?_⟩
  refine ⟨p0 rfl, ?_⟩
  have p30 : (10 : Int) ^ (30 : Int).toNat = 1000000000000000000000000000000 := by decide
  have p12 : (10 : Int) ^ (12 : Int).toNat = 1000000000000 := by decide
  have h4 := mod_ok (i := y) (j := 4) (by decide)
  refine pick_lst h4.1 h4.2 fun top htop => ?_
  have ht : ∃ t : Int, top = .int t ∧ big t := by
    simp only [List.mem_cons, List.not_mem_nil, or_false] at htop
    have a1 := m7 10 (by decide)
    have a2 := m7 1000 (by decide)
    have a3 := m7 50 (by decide)
    rcases htop with rfl | rfl | rfl | rfl
    · exact ⟨_, rfl, a1.1, by omega⟩
    · exact ⟨_, rfl, a2.1, by omega⟩
    · exact ⟨_, rfl, by rw [p30]; omega, by rw [p30]; omega⟩
    · exact ⟨_, rfl, by rw [p12]; omega, by rw [p12]; omega⟩
  obtain ⟨t, rfl, ht⟩ := ht
  refine ⟨div_ok (by decide) (by decide) x, p0 rfl, ?_⟩
  refine ⟨pow30, ?_⟩
  refine ⟨div_ok (by decide) (by decide) x, p0 rfl, ?_⟩
  refine ⟨szs rfl, .inl ?_⟩
  refine ⟨p0 rfl, ?_⟩
  have h6 := mod_ok (i := x) (j := 6) (by decide)
  refine pick_lst h6.1 h6.2 fun low hlow => ?_
  have hl : ∃ t : Int, low = .int t ∧ big t ∧ 1 ≤ t := by
    simp only [List.mem_cons, List.not_mem_nil, or_false] at hlow
    have a1 := m5 40 (by decide)
    have a2 := m5 30 (by decide)
    rcases hlow with rfl | rfl | rfl | rfl | rfl | rfl
    · exact ⟨_, rfl, ⟨by decide, by decide⟩, by decide⟩
    · exact ⟨_, rfl, ⟨by decide, by decide⟩, by decide⟩
    · exact ⟨_, rfl, ⟨by omega, by omega⟩, by omega⟩
    · exact ⟨_, rfl, ⟨by decide, by decide⟩, by decide⟩
    · exact ⟨_, rfl, ⟨by rw [p30]; omega, by rw [p30]; omega⟩, by rw [p30]; omega⟩
    · exact ⟨_, rfl, ⟨by omega, by omega⟩, by omega⟩
  obtain ⟨l, rfl, hl, hl1⟩ := hl
  exact ⟨t, l, rfl, ht, hl, hl1, fun a b ha hb hb1 hg => .here (hq a b M2 ha hb hb1 hg (k1.trans k2) hd2)⟩
end Cw

set_option Elab.async false
set_option linter.all false
set_option maxRecDepth 100000
set_option maxHeartbeats 0
namespace Cw
open PySem PySem.Spec L2 L3
open PyProof.Rows hiding St
theorem set_int (l : List Int) (j : Nat) (v : Int) : (l.map U.int).set j (.int v) = (l.set j v).map U.int := by rw [List.map_set]
theorem r__law_deck {K us M q e} (h : sp__law_deck K us M q e) : t__law_deck K { nx := fun _ M' => Gz q .non M', rt := Gz q } (startU n__law_deck.length us) M := by
  obtain ⟨ns, m, rfl, hns, hm, hq⟩ := h
  have hsz := size16
  refine ⟨_, rfl, .inr fun p np => ?_⟩
  dsimp only
  refine seq_cut (t := sIf _ _ _) (fun z M1 => ∃ (r : Addr) (l : List Int), z = [some (scriptU ns), some (.int m), some (.ref r), none, none, none, none, none] ∧ l ≠ [] ∧ l.length ≤ 63 ∧ L3.Sub M M1 ∧ M r = none ∧ M1 r = some (.lst (l.map U.int))) ?_ fun hv => ?_
  · rintro z M1 ⟨r, l, rfl, hl, hl63, hs, nr, hr⟩
    obtain ⟨v, l', rfl⟩ : ∃ v l', l = v :: l' := by
      cases l with
      | nil => exact absurd rfl hl
      | cons v l' => exact ⟨v, l', rfl⟩
    have at0 : atI ((v :: l').map U.int) 0 = some (.int v) := atI_nat (j := 0) rfl
    refine ix_lst hr at0 ?_
    refine ⟨p0 rfl, ?_⟩
    refine ix_lst hr at0 ?_
    refine ⟨div_ok (by decide) (by decide) v, ?_⟩
    refine asL_lst hr ⟨0, ixN_in (by decide) (by simp), ?_⟩
    rw [set_int]
    generalize hl2 : (v :: l').set 0 (v / 2) = l2
    have hl2' : l2 ≠ [] := by rw [← hl2]; simp
    have hl263 : l2.length ≤ 63 := by rw [← hl2, List.length_set]; exact hl63
    refine ⟨szs rfl, .inr fun d nd => ?_⟩
    have hrd : r ≠ d := by intro e; rw [e, put_same] at nd; cases nd
    have nd' : M1 d = none := by rw [put_ne (Ne.symm hrd)] at nd; exact nd
    have ndM : M d = none := by
      cases h : M d with
      | none => rfl
      | some o => rw [hs _ _ h] at nd'; cases nd'
    refine ⟨w62_nat (by omega), ?_⟩
    refine ⟨fun i z M' => ∃ (l : List Int) (ds : List Int) (o5 o6 o7 : Option U), z = [some (scriptU ns), some (.int m), some (.ref r), some (.int (v % 2)), some (.ref d), o5, o6, o7] ∧ l ≠ [] ∧ l.length ≤ 63 ∧ M' r = some (.lst (l.map U.int)) ∧ M' d = some (.lst (ds.map U.int)) ∧ ds.length = i ∧ (∀ x ∈ ds, 0 ≤ x ∧ x < 2147483648) ∧ L3.Sub M M',
      ⟨l2, [], none, none, none, rfl, hl2', hl263, by rw [put_ne hrd, put_same], by rw [put_same]; rfl, rfl, by simp, (hs.put_new nr).put_new ndM⟩, fun _ _ _ _ => trivial, ?_, ?_⟩
    · rintro i x z M2 hx ⟨l, ds, o5, o6, o7, rfl, hl, hl63, hr, hd, hdl, hds, hs⟩
      obtain ⟨hi, rfl⟩ := range_at hx
      have hl0 : 0 < l.length := List.length_pos_iff.mpr hl
      refine ⟨l.length, by rw [lenU_lst hr, List.length_map], by omega, ?_⟩
      refine ⟨by show (0 : Int) < (l.length : Nat); omega, ?_⟩
      have hat : 0 ≤ (i : Int) % (l.length : Nat) ∧ (i : Int) % (l.length : Nat) < (l.length : Nat) := mod_ok (by omega)
      obtain ⟨w, hw, eat⟩ := atI_int hat.1 hat.2
      refine ix_lst hr eat ?_
      refine ⟨p0 rfl, ?_⟩
      have h6 := mod_ok (i := w) (j := 1000000) (by decide)
      dsimp only
      refine seq_cut (t := sIf _ _ _) (fun z M3 => ∃ (l : List Int) (one : Int) (o6 : Option U), z = [some (scriptU ns), some (.int m), some (.ref r), some (.int (v % 2)), some (.ref d), some (.int i), o6, some (.int one)] ∧ l ≠ [] ∧ l.length ≤ 63 ∧ M3 r = some (.lst (l.map U.int)) ∧ M3 d = some (.lst (ds.map U.int)) ∧ 0 ≤ one ∧ one < 2147483648 ∧ L3.Sub M M3) ?_ fun hv2 => ?_
      · rintro z M3 ⟨l, one, o6, rfl, hl, hl63, hr, hd, ho0, ho1, hs⟩
        refine ⟨⟨d, _, rfl, hd⟩, d, _, rfl, hd, by rw [List.length_map]; omega, ?_⟩
        refine ⟨l, ds ++ [one], _, _, _, rfl, hl, hl63, by rw [put_ne hrd]; exact hr, by rw [put_same]; simp, by simp [hdl], ?_, hs.put_new ndM⟩
        intro x hx
        rcases List.mem_append.mp hx with hx | hx
        · exact hds x hx
        · rw [List.mem_singleton.mp hx]; exact ⟨ho0, ho1⟩
      · refine ifB_dec (fun ho => ?_) (fun ho => ?_)
        · refine ix_lst hr eat ?_
          refine ⟨mulOk (by omega) (by omega), ?_⟩
          refine ⟨mulOk' (by decide) (by decide), ?_⟩
          refine ⟨mulOk (by decide) (by decide), ?_⟩
          refine ⟨p0 rfl, ?_⟩
          dsimp only
          generalize hone : (w + (i : Int) * i * 16807 + 3 * i) % 2147483629 = one
          have h1 : 0 ≤ one ∧ one < 2147483629 := by rw [← hone]; exact mod_ok (by decide)
          refine ⟨szs rfl, .inl ?_⟩
          refine ⟨p0 rfl, ?_⟩
          have h4 := mod_ok (i := (i : Int)) (j := 4) (by decide)
          refine pick_lst h4.1 h4.2 fun c hc => ?_
          obtain ⟨c, rfl⟩ : ∃ k : Int, c = .int k := by
            simp only [List.mem_cons, List.not_mem_nil, or_false] at hc
            rcases hc with rfl | rfl | rfl | rfl <;> exact ⟨_, rfl⟩
          refine ⟨mulOk (by omega) (by omega), ?_⟩
          refine ⟨p0 rfl, ?_⟩
          have h2 := mod_ok (i := one * c + 7) (j := 2147483647) (by decide)
          refine ⟨mulOk (by have := h2.1; dsimp only; omega) (by have := h2.2; dsimp only; omega), ?_⟩
          refine ⟨p0 rfl, ?_⟩
          have h3 := mod_ok (i := ((one * c + 7) % 2147483647) * ((one * c + 7) % 2147483647)) (j := 2147483629) (by decide)
          exact hv2 _ _ ⟨l, _, _, rfl, hl, hl63, hr, hd, h3.1, by omega, hs⟩
        · refine ix_lst hr eat ?_
          refine ⟨div_ok (by decide) (by decide) w, ?_⟩
          refine asL_lst hr ⟨_, ixN_in hat.1 (by rw [List.length_map]; exact hat.2), ?_⟩
          rw [set_int]
          refine hv2 _ _ ⟨l.set ((i : Int) % (l.length : Nat)).toNat (w / 1000000), _, _, rfl, ?_, by rw [List.length_set]; exact hl63, put_same, by rw [put_ne (Ne.symm hrd)]; exact hd, h6.1, by omega, hs.put_new nr⟩
          · intro e
            have := congrArg List.length e
            rw [List.length_set, List.length_nil] at this
            omega
    · rintro z M2 ⟨l, ds, o5, o6, o7, rfl, hl, hl63, hr, hd, hdl, hds, hs⟩
      refine ⟨⟨d, _, rfl, hd⟩, rfl, d, _, rfl, hd, ?_⟩
      refine .here (hq d _ ndM (hs.put_new ndM) ⟨ds.reverse, by rw [put_same, List.map_reverse], fun x hx => hds x (List.mem_reverse.mp hx), ?_⟩)
      rw [List.length_reverse, hdl, rangeU_len]
      simp
  · refine ⟨szs rfl, .inl ?_⟩
    refine ⟨.list (ns.map PyData.int), .list [], dM_ints put_same, rfl, okD_ints ns, okD_ints [], ?_⟩
    rw [eqv_nil]
    refine ifB_dec (fun h0 => ?_) (fun h0 => ?_)
    · refine ⟨szs rfl, .inr fun p' np' => ?_⟩
      have hpp : p ≠ p' := by intro e; rw [e, put_same] at np'; cases np'
      refine hv _ _ ⟨p', [4], rfl, by simp, by simp, (L3.Sub.put np).put_new ?_, ?_, put_same⟩
      all_goals (rw [put_ne (Ne.symm hpp)] at np'; exact np')
    · exact hv _ _ ⟨p, ns, rfl, h0, hns, .put np, np, put_same⟩
end Cw

set_option Elab.async false
set_option linter.all false
set_option maxRecDepth 100000
set_option maxHeartbeats 0
namespace Cw
open PySem PySem.Spec L2 L3
open PyProof.Rows hiding St
theorem r__law_drawn {K us M q e} (h : sp__law_drawn K us M q e) : t__law_drawn K { nx := fun _ M' => Gz q .non M', rt := Gz q } (startU n__law_drawn.length us) M := by
  obtain ⟨d, n, m, rfl, hm, hd, hq⟩ := h
  have hsz := size16
  refine ⟨szs rfl, .inr fun f nf => ?_⟩
  have hdf : d ≠ f := hd.ne nf
  refine ⟨w62_nat (by omega), ?_⟩
  refine ⟨fun i z M' => ∃ (rs : List Row) (o3 o4 : Option U), z = [some (.ref d), some (.int m), some (.ref f), o3, o4] ∧ i ≤ m ∧ M' f = some (.lst (rs.map rowU)) ∧ rs.length = i ∧ (∀ r ∈ rs, okRow r) ∧ Keep d M M' ∧ Dk M' d (n + 3 * (m - i)),
    ⟨[], none, none, rfl, Nat.zero_le _, by rw [put_same]; rfl, rfl, by simp, .new nf, hd.keep fun o ho => by rw [put_ne hdf]; exact ho⟩, fun _ _ _ _ => trivial, ?_, ?_⟩
  · rintro i x z M1 hx ⟨rs, o3, o4, rfl, him, hf, hl, hr, hk, hd1⟩
    obtain ⟨hi, rfl⟩ := range_at hx
    refine pop_dk (d := d) (n := n + 3 * (m - (i + 1)) + 2) (hd1.mono (by omega)) fun y M2 hy0 hy1 hd2 k2 => ?_
    have hf2 := k2.at hf (Ne.symm hdf)
    refine ⟨⟨f, _, rfl, hf2⟩, ?_⟩
    refine ⟨p0 rfl, ?_⟩
    refine ⟨div_ok (by decide) (by decide) y, p0 rfl, ?_⟩
    refine ⟨div_ok (by decide) (by decide) y, p0 rfl, ?_⟩
    refine ⟨szs rfl, .inl ?_⟩
    refine ⟨p0 rfl, ?_⟩
    have h2 := mod_ok (i := (i : Int)) (j := 2) (by decide)
    refine pick_lst h2.1 h2.2 fun v hv => ?_
    obtain ⟨jj, rfl, hj0, hj1⟩ : ∃ j : Int, v = .int j ∧ 0 ≤ j ∧ j < 100 := by
      have a1 := mod_ok (i := y / 100) (j := 100) (by decide)
      have a2 := mod_ok (i := y / 100) (j := 10) (by decide)
      simp only [List.mem_cons, List.not_mem_nil, or_false] at hv
      rcases hv with rfl | rfl
      · exact ⟨_, rfl, a1.1, a1.2⟩
      · exact ⟨_, rfl, a2.1, by omega⟩
    refine ⟨d, n + 3 * (m - (i + 1)), rfl, hd2, fun a b M3 ha hb hb1 hg k3 hd3 => ?_⟩
    refine ⟨le3, .inl ?_⟩
    have hf3 := k3.at hf2 (Ne.symm hdf)
    refine ⟨f, _, rfl, hf3, by rw [List.length_map]; omega, ?_⟩
    have hk' : Keep d M M3 := (hk.trans k2).trans k3
    have y100 := mod_ok (i := y) (j := 100) (by decide)
    refine ⟨rs ++ [⟨y % 100, jj, a, b⟩], _, _, rfl, hi, by rw [put_same, List.map_append]; rfl, by simp [hl], ?_, hk'.put_new nf, hd3.keep fun o ho => by rw [put_ne hdf]; exact ho⟩
    intro r hr'
    rcases List.mem_append.mp hr' with h | h
    · exact hr r h
    · rw [List.mem_singleton.mp h]
      exact ⟨y100.1, y100.2, hj0, hj1, ha, hb, hb1, hg⟩
  · rintro z M1 ⟨rs, o3, o4, rfl, him, hf, hl, hr, hk, hd1⟩
    have hlen : (rangeU 0 (m : Int).toNat).length = m := by rw [rangeU_len]; simp
    rw [hlen] at hl hd1
    refine .frz hf (.here (hq rs _ hl hr ?_ ?_))
    · intro b o hb eb
      rw [drp_ne (mne eb nf)]
      exact hk b o hb eb
    · exact (hd1.mono (by omega)).keep fun o ho => by rw [drp_ne hdf]; exact ho
theorem r__law_places {K us M q e} (h : sp__law_places K us M q e) : t__law_places K { nx := fun _ M' => Gz q .non M', rt := Gz q } (startU n__law_places.length us) M := by
  obtain ⟨d, n, m, rfl, hm, hd, hq⟩ := h
  have hsz := size16
  refine ⟨szs rfl, .inr fun f nf => ?_⟩
  have hdf : d ≠ f := hd.ne nf
  refine ⟨w62_nat (by omega), ?_⟩
  refine ⟨fun i z M' => ∃ (ss : List (List Int)) (o3 o4 : Option U), z = [some (.ref d), some (.int m), some (.ref f), o3, o4, none] ∧ i ≤ m ∧ M' f = some (.lst (ss.map sideU)) ∧ ss.length = i ∧ (∀ s ∈ ss, okSide s) ∧ Keep d M M' ∧ Dk M' d (n + 7 * (m - i)),
    ⟨[], none, none, rfl, Nat.zero_le _, by rw [put_same]; rfl, rfl, by simp, .new nf, hd.keep fun o ho => by rw [put_ne hdf]; exact ho⟩, fun _ _ _ _ => trivial, ?_, ?_⟩
  · rintro i x z M1 hx ⟨ss, o3, o4, rfl, him, hf, hl, hr, hk, hd1⟩
    obtain ⟨hi, rfl⟩ := range_at hx
    refine pop_dk (d := d) (n := n + 7 * (m - (i + 1)) + 6) (hd1.mono (by omega)) fun y M2 hy0 hy1 hd2 k2 => ?_
    have hf2 := k2.at hf (Ne.symm hdf)
    refine ⟨⟨f, _, rfl, hf2⟩, ?_⟩
    have h6 := mod_ok (i := y) (j := 6) (by decide)
    obtain ⟨L, hL, hL1, hL6⟩ : ∃ L : Nat, (1 + y % 6 : Int) = L ∧ 1 ≤ L ∧ L ≤ 6 := ⟨(1 + y % 6).toNat, by omega, by omega, by omega⟩
    refine ⟨p0 rfl, ?_⟩
    refine ⟨by dsimp only; unfold w62; omega, ?_⟩
    dsimp only
    rw [hL]
    refine ⟨fun D nD => ?_⟩
    have nDf : f ≠ D := mne hf2 nD
    have nDd : d ≠ D := hd2.ne nD
    refine ⟨fun i2 acc M' => ∃ s : List Int, acc = s.map U.int ∧ s.length = i2 ∧ i2 ≤ L ∧ (∀ x ∈ s, 0 ≤ x ∧ x < 100) ∧ Keep d M2 M' ∧ M' D = some (.lst acc) ∧ Dk M' d (n + 7 * (m - (i + 1)) + (6 - i2)),
      ⟨[], rfl, rfl, Nat.zero_le _, by simp, .new nD, put_same, hd2.keep fun o ho => by rw [put_ne nDd]; exact ho⟩, fun _ _ _ _ => trivial, ?_, ?_⟩
    · rintro i2 x acc M3 hx2 ⟨s, rfl, hs, hi2, hrng, k3, hD, hd3⟩
      obtain ⟨hi2', rfl⟩ := range_at hx2
      refine pop_dk (d := d) (n := n + 7 * (m - (i + 1)) + (6 - (i2 + 1))) (hd3.mono (by omega)) fun v M4 hv0 hv1 hd4 k4 => ?_
      refine ⟨szs rfl, .inl ?_⟩
      refine ⟨div_ok (by decide) (by decide) y, p0 rfl, ?_⟩
      have h3 := mod_ok (i := y / 9) (j := 3) (by decide)
      refine pick_lst h3.1 h3.2 fun c hc => ?_
      obtain ⟨c, rfl, hc0, hc1⟩ : ∃ k : Int, c = .int k ∧ 0 < k ∧ k ≤ 100 := by
        simp only [List.mem_cons, List.not_mem_nil, or_false] at hc
        rcases hc with rfl | rfl | rfl
        · exact ⟨_, rfl, by decide, by decide⟩
        · exact ⟨_, rfl, by decide, by decide⟩
        · exact ⟨_, rfl, by decide, by decide⟩
      have hcm := mod_ok (i := v) hc0
      have hD4 := k4.at hD (Ne.symm nDd)
      refine ⟨hc0, hD4, by rw [List.length_map]; omega, s ++ [v % c], by simp, by simp [hs], hi2', ?_, (k3.trans k4).put_new nD, put_same, hd4.keep fun o ho => by rw [put_ne nDd]; exact ho⟩
      intro z hz
      rcases List.mem_append.mp hz with h | h
      · exact hrng z h
      · rw [List.mem_singleton.mp h]
        exact ⟨hcm.1, by omega⟩
    · rintro acc M3 ⟨s, rfl, hs, hi2, hrng, k3, hD, hd3⟩
      have hlen : (rangeU 0 (L : Int).toNat).length = L := by rw [rangeU_len]; simp
      rw [hlen] at hs hd3
      refine .inr ⟨_, by unfold seqA; exact seqL_ref hD, ?_⟩
      have hf3 := k3.at hf2 (Ne.symm hdf)
      refine ⟨f, _, rfl, hf3, by rw [List.length_map]; omega, ?_⟩
      have hk' : Keep d M M3 := (hk.trans k2).trans k3
      refine ⟨ss ++ [s], _, _, rfl, hi, by rw [put_same, List.map_append]; rfl, by simp [hl], ?_, hk'.put_new nf, (hd3.mono (by omega)).keep fun o ho => by rw [put_ne hdf]; exact ho⟩
      intro r hr'
      rcases List.mem_append.mp hr' with h | h
      · exact hr r h
      · rw [List.mem_singleton.mp h]
        exact ⟨by omega, by omega, hrng⟩
  · rintro z M1 ⟨ss, o3, o4, rfl, him, hf, hl, hr, hk, hd1⟩
    have hlen : (rangeU 0 (m : Int).toNat).length = m := by rw [rangeU_len]; simp
    rw [hlen] at hl hd1
    refine .frz hf (.here (hq ss _ hl hr ?_ ?_))
    · intro b o hb eb
      rw [drp_ne (mne eb nf)]
      exact hk b o hb eb
    · exact (hd1.mono (by omega)).keep fun o ho => by rw [drp_ne hdf]; exact ho
theorem small_of {n : Int} (h : n.natAbs < 2 ^ 200) : small n := by
  have := log2_of_lt h (by decide)
  unfold small
  omega
theorem big_small {n : Int} (h : big n) : small n := small_of (by have := h.1; have := h.2; omega)
theorem r__law_line {K us M q e} (h : sp__law_line K us M q e) : t__law_line K { nx := fun _ M' => Gz q .non M', rt := Gz q } (startU n__law_line.length us) M := by
  obtain ⟨w, r, rfl, hw, hr, hq⟩ := h
  have h1 := sT_len hr.1
  have h2 := sT_len hr.2.1
  have h3 := amTxt_len hr.2.2.1 hr.2.2.2
  refine ⟨⟨_, rfl⟩, ?_⟩
  refine seqF_ix rfl (i := 0) (v := .int r.i) rfl ?_
  refine ⟨hr.1, ?_⟩
  refine seqF_ix rfl (i := 1) (v := .int r.j) rfl ?_
  refine ⟨hr.2.1, ?_⟩
  refine seqF_ix rfl (i := 2) (v := .tup [.int r.a, .int r.b]) rfl ?_
  refine ⟨r.a, r.b, rfl, hr.2.2.1, hr.2.2.2, ?_⟩
  refine ⟨szs rfl, .inl ?_⟩
  refine ⟨" ", _, [w, sT r.i, sT r.j, amTxt r.a r.b], rfl, rfl, rfl, ?_, .here hq⟩
  simp only [List.map_cons, List.map_nil, List.sum_cons, List.sum_nil, List.length_cons, List.length_nil, l_sp]
  omega
end Cw

set_option Elab.async false
set_option linter.all false
set_option maxRecDepth 100000
set_option maxHeartbeats 0
namespace Cw
open PySem PySem.Spec L2 L3
open PyProof.Rows hiding St
/-- a row put among rows, by its places -/
def insR (rs : List Row) (r : Row) : List Row := if (rs.any fun s => decide (keyR s = keyR r)) then rs.map (fun s => if keyR s = keyR r then r else s) else rs ++ [r]
theorem keyT_iff {r s : Row} : keyT r = keyT s ↔ keyR r = keyR s := by
  refine ⟨keyT_inj, fun h => ?_⟩
  unfold keyR at h
  injection h with h1 h2
  unfold keyT
  rw [h1, h2]
theorem dput_rows (rs : List Row) (r : Row) : dput (rs.map pairR) (keyT r) (amU r) = (insR rs r).map pairR := by
  unfold dput insR
  have e : ((rs.map pairR).any fun p => decide (p.1 = keyT r)) = rs.any fun s => decide (keyR s = keyR r) := by
    rw [List.any_map]
    congr 1
    funext s
    exact decide_eq_decide.mpr keyT_iff
  rw [e]
  split
  · rw [List.map_map, List.map_map]
    refine List.map_congr_left fun s _ => ?_
    show (if keyT s = keyT r then (keyT s, amU r) else (keyT s, amU s)) = pairR (if keyR s = keyR r then r else s)
    by_cases h : keyR s = keyR r
    · rw [if_pos h, if_pos (keyT_iff.mpr h), keyT_iff.mpr h]; rfl
    · rw [if_neg h, if_neg (fun z => h (keyT_inj z))]; rfl
  · rw [List.map_append]; rfl
theorem insR_keys (rs : List Row) (r : Row) : (insR rs r).map keyR = if (rs.any fun s => decide (keyR s = keyR r)) then rs.map keyR else rs.map keyR ++ [keyR r] := by
  unfold insR
  split
  · rw [List.map_map]
    refine List.map_congr_left fun s _ => ?_
    show keyR (if keyR s = keyR r then r else s) = keyR s
    by_cases h : keyR s = keyR r
    · rw [if_pos h, h]
    · rw [if_neg h]
  · rw [List.map_append]; rfl
theorem insR_nodup {rs : List Row} {r : Row} (h : (rs.map keyR).Nodup) : ((insR rs r).map keyR).Nodup := by
  rw [insR_keys]
  split
  · exact h
  · rename_i hn
    refine List.nodup_append.mpr ⟨h, by simp, fun a ha b hb e => hn ?_⟩
    rw [List.mem_singleton] at hb
    subst hb
    obtain ⟨s, hs, e2⟩ := List.mem_map.mp ha
    exact List.any_eq_true.mpr ⟨s, hs, decide_eq_true (e2.trans e)⟩
theorem insR_mem {rs : List Row} {r s : Row} (h : s ∈ insR rs r) : s ∈ rs ∨ s = r := by
  unfold insR at h
  split at h
  · obtain ⟨t, ht, e⟩ := List.mem_map.mp h
    by_cases hk : keyR t = keyR r
    · rw [if_pos hk] at e; exact .inr e.symm
    · rw [if_neg hk] at e; exact .inl (e ▸ ht)
  · rcases List.mem_append.mp h with h | h
    · exact .inl h
    · exact .inr (List.mem_singleton.mp h)
theorem insR_len (rs : List Row) (r : Row) : (insR rs r).length ≤ rs.length + 1 := by
  unfold insR
  split
  · rw [List.length_map]; omega
  · simp
theorem leR_trans (a b c : Row) (h1 : leR a b = true) (h2 : leR b c = true) : leR a c = true := by
  unfold leR at *
  simp only [decide_eq_true_eq] at *
  omega
theorem leR_total (a b : Row) : (leR a b || leR b a) = true := by
  unfold leR
  simp only [Bool.or_eq_true, decide_eq_true_eq]
  omega
theorem sort_lt {rs : List Row} (nd : (rs.map keyR).Nodup) : (rs.mergeSort leR).Pairwise ltR := by
  have h1 := List.pairwise_mergeSort leR_trans leR_total rs
  have h2 : ((rs.mergeSort leR).map keyR).Nodup := ((List.mergeSort_perm rs leR).map keyR).nodup_iff.mpr nd
  rw [List.nodup_iff_pairwise_ne, List.pairwise_map] at h2
  refine (h1.and h2).imp ?_
  rintro r s ⟨h, hn⟩
  unfold leR at h
  simp only [decide_eq_true_eq] at h
  unfold ltR
  have : ¬ (r.i = s.i ∧ r.j = s.j) := fun z => hn (by unfold keyR; rw [z.1, z.2])
  omega
/-- a pair with what stands there -/
def plf (kvs : List (U × U)) (k : U) : U := match k, dlook kvs k with
  | .kt [a, b], some w => .tup [a, b, w]
  | k, _ => k
theorem w_1_1 : isW 1 1 := by decide
theorem w_1_2 : isW 1 2 := by decide
theorem w_3_4 : isW 3 4 := by decide
theorem w_big_1 : isW 1000000000000 1 := by decide
theorem w_1_55440 : isW 1 55440 := by decide
theorem w_5_12 : isW 5 12 := by decide
theorem w_big_7 : isW 999999999997 7 := by decide +kernel
theorem w_0_1 : isW 0 1 := by decide
theorem w_n_1 {n : Int} (h0 : 0 ≤ n) (h1 : n < 99) : isW n 1 := ⟨h0, by decide, by rw [Int.gcd_one], by omega, by decide⟩
theorem r__law_ties {K us M q e} (h : sp__law_ties K us M q e) : t__law_ties K { nx := fun _ M' => Gz q .non M', rt := Gz q } (startU n__law_ties.length us) M := by
  obtain ⟨d, n, m, rfl, hm1, hm40, hd, hq⟩ := h
  have hsz := size16
  refine .inr fun f nf => ?_
  have hdf : d ≠ f := hd.ne nf
  have hd0 : Dk (put M f (.dic true false [])) d (n + 9) := hd.keep fun o ho => by rw [put_ne hdf]; exact ho
  refine pop_dk (d := d) (n := n + 8) hd0 fun y M1 hy0 hy1 hd1 k1 => ?_
  have hf1 : M1 f = some (.dic true false ([].map pairR)) := k1.at put_same (Ne.symm hdf)
  have h9 := mod_ok (i := y) (j := 9) (by decide)
  obtain ⟨L, hL, hL8⟩ : ∃ L : Nat, (y % 9 : Int) = L ∧ L ≤ 8 := ⟨(y % 9).toNat, by omega, by omega⟩
  refine ⟨p0 rfl, by dsimp only; unfold w62; omega, ?_⟩
  dsimp only
  rw [hL]
  refine ⟨fun i z M' => ∃ (rs : List Row) (o3 o4 o5 o6 o7 : Option U), z = [some (.ref d), some (.int m), some (.ref f), o3, o4, o5, o6, o7, none] ∧ i ≤ L ∧ M' f = some (.dic true false (rs.map pairR)) ∧ rs.length ≤ i ∧ (∀ r ∈ rs, okTie m r) ∧ (rs.map keyR).Nodup ∧ Keep d M M' ∧ Dk M' d (n + (8 - i)),
    ⟨[], none, none, none, none, none, rfl, Nat.zero_le _, hf1, Nat.le_refl _, by simp, by simp, (Keep.new nf).trans k1, hd1⟩, fun _ _ _ _ => trivial, ?_, ?_⟩
  · rintro i x z M2 hx ⟨rs, o3, o4, o5, o6, o7, rfl, hiL, hf, hl, hr, nd, hk, hd2⟩
    obtain ⟨hi, rfl⟩ := range_at hx
    refine pop_dk (d := d) (n := n + (8 - (i + 1))) (hd2.mono (by omega)) fun v M3 hv0 hv1 hd3 k3 => ?_
    have hf3 := k3.at hf (Ne.symm hdf)
    have hk3 : Keep d M M3 := hk.trans k3
    refine ⟨by show (0 : Int) < m; omega, ?_⟩
    refine ⟨div_ok (by decide) (by decide) v, by show (0 : Int) < m; omega, ?_⟩
    have hi5 := mod_ok (i := v) (j := m) (by omega)
    have hi6 := mod_ok (i := v / 41) (j := m) (by omega)
    refine ⟨le2, .inl ?_⟩
    refine ⟨le2, .inl ?_⟩
    refine ⟨le2, .inl ?_⟩
    refine ⟨pow12, ?_⟩
    refine ⟨le2, .inl ?_⟩
    refine ⟨le2, .inl ?_⟩
    refine ⟨le2, .inl ?_⟩
    refine ⟨pow12, ?_⟩
    refine ⟨le2, .inl ?_⟩
    refine ⟨le2, .inl ?_⟩
    refine ⟨szs rfl, .inl ?_⟩
    have skip : ∀ (o5 o6 o7 : Option U), ∃ (rs : List Row) (p3 p4 p5 p6 p7 : Option U), ([some (.ref d), some (.int m), some (.ref f), some (.int i), some (.int v), o5, o6, o7, none] : SL) = [some (.ref d), some (.int m), some (.ref f), p3, p4, p5, p6, p7, none] ∧ i + 1 ≤ L ∧ M3 f = some (.dic true false (rs.map pairR)) ∧ rs.length ≤ i + 1 ∧ (∀ r ∈ rs, okTie m r) ∧ (rs.map keyR).Nodup ∧ Keep d M M3 ∧ Dk M3 d (n + (8 - (i + 1))) :=
      fun o5 o6 o7 => ⟨rs, _, _, _, _, _, rfl, hi, hf3, by omega, hr, nd, hk3, hd3⟩
    refine ifB_of (fun hne => ?_) (fun _ => skip _ _ _)
    have hne' : v % m ≠ v / 41 % m := by
      intro e
      rw [show (not (decide ((fun i j => i % j) v m = (fun i j => i % j) ((fun i j => i / j) v 41) m))) = false by simp [e]] at hne
      cases hne
    refine ⟨div_ok (by decide) (by decide) v, p0 rfl, ?_⟩
    refine ⟨le2, .inl ?_⟩
    refine ⟨szs rfl, .inl ?_⟩
    refine ⟨_, _, rfl, rfl, szs rfl, .inl ?_⟩
    refine ⟨div_ok (by decide) (by decide) v, p0 rfl, ?_⟩
    have h17 := mod_ok (i := v / 1700) (j := 9) (by decide)
    refine pick_lst h17.1 h17.2 fun w hw => ?_
    obtain ⟨a, b, rfl, hW⟩ : ∃ a b : Int, w = .tup [.int a, .int b] ∧ isW a b := by
      have p12 : (10 : Int) ^ (12 : Int).toNat = 1000000000000 := by decide
      have h99 := mod_ok (i := v / 9) (j := 99) (by decide)
      simp only [List.cons_append, List.nil_append, List.mem_cons, List.not_mem_nil, or_false, p12] at hw
      rcases hw with rfl | rfl | rfl | rfl | rfl | rfl | rfl | rfl | rfl
      · exact ⟨_, _, rfl, w_1_1⟩
      · exact ⟨_, _, rfl, w_1_2⟩
      · exact ⟨_, _, rfl, w_3_4⟩
      · exact ⟨_, _, rfl, w_big_1⟩
      · exact ⟨_, _, rfl, w_1_55440⟩
      · exact ⟨_, _, rfl, w_5_12⟩
      · exact ⟨_, _, rfl, w_big_7⟩
      · exact ⟨_, _, rfl, w_0_1⟩
      · exact ⟨_, _, rfl, w_n_1 h99.1 h99.2⟩
    refine ⟨le2, .inr ?_⟩
    -- found[min, max] = amount
    obtain ⟨lo, hi', e1, e2, hlt⟩ : ∃ lo hi' : Int, (if v / 41 % m < v % m then v / 41 % m else v % m) = lo ∧ (if v / 41 % m > v % m then v / 41 % m else v % m) = hi' ∧ 0 ≤ lo ∧ lo < hi' ∧ hi' < m := by
      refine ⟨_, _, rfl, rfl, ?_⟩
      split <;> split <;> omega
    refine asL_dic hf3 ⟨rfl, rfl, by rw [List.length_map]; omega, ?_⟩
    dsimp only
    rw [e1, e2]
    have hd' := dput_rows rs ⟨lo, hi', a, b⟩
    refine ⟨insR rs ⟨lo, hi', a, b⟩, _, _, _, _, _, rfl, hi, by rw [put_same]; exact congrArg (fun z => some (MO.dic true false z)) hd', ?_, ?_, insR_nodup nd, hk3.put_new nf, hd3.keep fun o ho => by rw [put_ne hdf]; exact ho⟩
    · have := insR_len rs ⟨lo, hi', a, b⟩
      omega
    · intro r hr'
      rcases insR_mem hr' with h | rfl
      · exact hr r h
      · exact ⟨hlt.1, hlt.2.1, hlt.2.2, hW⟩
  · rintro z M2 ⟨rs, o3, o4, o5, o6, o7, rfl, hiL, hf, hl, hr, nd, hk, hd2⟩
    have hlen : (rangeU 0 (L : Int).toNat).length = L := by rw [rangeU_len]; simp
    rw [hlen] at hl hd2
    refine .inr ⟨f, true, false, _, rfl, hf, ?_, .inl ?_⟩
    · rw [pairR_keys]; exact sortOk_ii Row.i Row.j rs
    · rw [pairR_keys, show sortU (rs.map keyT) = (rs.mergeSort leR).map keyT from sortU_ii Row.i Row.j rs]
      refine seqF_iter rfl fun side hs => ?_
      have hv : ∀ r ∈ rs, dlook (rs.map pairR) (keyT r) = some (amU r) := fun r hrm => dlook_map_some (key := keyT) (val := amU) hrm fun s hs e => by rw [row_at nd hs hrm (keyT_inj e)]
      refine lc_map (plf (rs.map pairR)) (fun M' _ => hs M') (by rw [List.length_map, List.length_mergeSort]; omega) (fun k hk' M' sub kk hkk => ?_) ?_
      · obtain ⟨r, hr', rfl⟩ := List.mem_map.mp hk'
        have hrm := told_mem hr'
        have e : plf (rs.map pairR) (keyT r) = rowU r := by
          unfold plf keyT
          rw [show dlook (rs.map pairR) (.kt [.int r.i, .int r.j]) = some (amU r) from hv r hrm]
          rfl
        rw [e] at hkk
        refine ix_dic (sub _ _ hf) rfl (hv r hrm) ?_
        refine ⟨le1, .inl ?_⟩
        exact ⟨_, rfl, szs rfl, .inl hkk⟩
      · have e : ((rs.mergeSort leR).map keyT).map (plf (rs.map pairR)) = (rs.mergeSort leR).map rowU := by
          rw [List.map_map]
          refine List.map_congr_left fun r hr' => ?_
          show plf (rs.map pairR) (keyT r) = rowU r
          unfold plf keyT
          rw [show dlook (rs.map pairR) (.kt [.int r.i, .int r.j]) = some (amU r) from hv r (told_mem hr')]
          rfl
        rw [e]
        refine .here (hq _ M2 (by rw [List.length_mergeSort]; omega) (fun r hr' => hr r (told_mem hr')) (sort_lt nd) hk (hd2.mono (by omega)))
end Cw

set_option Elab.async false
set_option linter.all false
set_option maxRecDepth 100000
set_option maxHeartbeats 0
namespace Cw
open PySem PySem.Spec L2 L3
open PyProof.Rows hiding St
theorem str_iter {M : Mp} {x : Str} {r : List U → (Mp → Prop) → Mp → Prop} (h : r (signsU x) yes M) : iterQ (.str x) M r := ⟨h⟩
theorem len_mkS (w : List Nat) : (mkS w).length = w.length := by rw [len_tl, tl_mkS]
theorem lenU_mkS {M : Mp} (w : List Nat) : lenU M (.str (mkS w)) = some w.length := by
  show some (mkS w).length = _
  rw [len_mkS]
theorem ix_str {M : Mp} {q : QK} {w : List Nat} {i : Int} {c : Nat} (hl : w.length ≤ 1000000) (h : atI w i = some c) (hq : q (.str (mkS [c])) M) : rIx (.str (mkS w)) (.int i) M q :=
  ⟨by have := size16; show (mkS w).length ≤ sizeLine; rw [len_mkS]; omega, c, h, hq⟩
theorem mkS_eq {a : List Nat} {s : Str} : mkS a = s ↔ a = tl s := ⟨fun h => by rw [← h, tl_mkS], fun h => by rw [h, mkS_tl]⟩
theorem figs : tl ("0123456789" : Str) = [48, 49, 50, 51, 52, 53, 54, 55, 56, 57] := by kernel_rfl
theorem fig_mem (c : Nat) : decide (c ∈ tl ("0123456789" : Str)) = isDig c := by
  unfold isDig
  rw [figs]
  refine decide_eq_decide.mpr ?_
  simp only [List.mem_cons, List.not_mem_nil, or_false]
  omega
theorem signsU_mkS (w : List Nat) : signsU (mkS w) = w.map fun c => .str (mkS [c]) := rfl
/-- signs that are no figures -/
def nf (u : U) : Option U := match u with
  | .str s => if (tl s).all isDig then none else some u
  | _ => none
theorem nf_signs (w : List Nat) : (signsU (mkS w)).filterMap nf = (w.filter fun c => !isDig c).map fun c => .str (mkS [c]) := by
  rw [signsU_mkS]
  induction w with
  | nil => rfl
  | cons c w ih =>
    rw [List.map_cons, List.filterMap_cons]
    have e : nf (.str (mkS [c])) = if isDig c then none else some (.str (mkS [c])) := by
      show (if (tl (mkS [c])).all isDig then none else some _) = _
      rw [tl_mkS]
      simp
    rw [e]
    cases h : isDig c with
    | true => rw [if_pos rfl, List.filter_cons_of_neg (by simp [h])]; exact ih
    | false => rw [if_neg Bool.false_ne_true, List.filter_cons_of_pos (by simp [h]), List.map_cons, ← ih]
theorem dTs_strs : ∀ ss : List Str, dTs (ss.map U.str) = some (ss.map PyData.str)
  | [] => rfl
  | s :: ss => by
    rw [List.map_cons]
    unfold dTs
    rw [dTs_strs ss]
    rfl
theorem canLay_strs : ∀ ss : List Str, (∀ s ∈ ss, valid (tl s)) → PyData.canLayAll0 (ss.map PyData.str) = true ∧ PyData.depthAll (ss.map PyData.str) = 0
  | [], _ => ⟨rfl, rfl⟩
  | s :: ss, h => by
    obtain ⟨h1, h2⟩ := canLay_strs ss fun t ht => h t (List.mem_cons_of_mem _ ht)
    have hs := h s (List.mem_cons_self ..)
    refine ⟨?_, ?_⟩
    · rw [List.map_cons]
      unfold PyData.canLayAll0
      rw [h1, Bool.and_true]
      show s.cps.all (fun c => decide (c < 0x110000)) = true
      rw [Array.all_eq_true_iff_forall_mem]
      intro c hc
      have := hs c (Array.mem_toList_iff.mpr hc)
      exact decide_eq_true (by omega)
    · rw [List.map_cons]
      simp [PyData.depthAll, PyData.depth, h2]
theorem okD_strs {ss : List Str} (h : ∀ s ∈ ss, valid (tl s)) : okD (.list (ss.map PyData.str)) := by
  obtain ⟨h1, h2⟩ := canLay_strs ss h
  unfold okD SeqAt.shaped
  simp [PyData.canLay0, PyData.depth, h1, h2]
theorem eqv_strs_nil : ∀ ss : List Str, PyData.eqv (.list (ss.map PyData.str)) (.list []) = decide (ss = [])
  | [] => rfl
  | _ :: _ => by simp [PyData.eqv, PyData.eqvAll]
/-- a list of texts against [] -/
theorem strs_nil {f : Bool → Bool} {ss : List Str} {M : Mp} {q : QK} (h : ∀ s ∈ ss, valid (tl s)) (hq : q (.bl (f (decide (ss = [])))) M) : rEqG f (.lst (ss.map U.str)) (.lst []) M q := by
  refine ⟨.list (ss.map PyData.str), .list [], ?_, rfl, okD_strs h, okD_ints [], ?_⟩
  · show (dTs (ss.map U.str)).map PyData.list = _
    rw [dTs_strs]; rfl
  · rw [eqv_strs_nil]; exact hq
theorem r_number_in {K us M q e} (h : sp_number_in K us M q e) : t_number_in K { nx := fun _ M' => Gz q .non M', rt := Gz q } (startU n_number_in.length us) M := by
  obtain ⟨w, most, rfl, hm, hl, hv, hq⟩ := h
  have hsz := size16
  have no : okNum w most = false → Gz q .non M := fun h => by
    unfold numU at hq
    rw [if_neg (by rw [h]; exact Bool.false_ne_true)] at hq
    exact .here hq
  refine ⟨w.length, lenU_mkS w, by omega, ?_⟩
  refine ifB_dec (fun h1 => ?_) (fun h1 => ?_)
  · refine ifB_of (fun hb => ?_) (fun hb => ?_)
    · refine no ?_
      have h2 : ¬ ((w.length : Int) ≤ most) := by
        intro z
        rw [show (!decide ((w.length : Int) ≤ most)) = false by simp [z]] at hb
        cases hb
      unfold okNum
      rw [decide_eq_false (fun z => h2 z.2)]
      rfl
    · have h2 : (w.length : Int) ≤ most := by
        by_cases z : (w.length : Int) ≤ most
        · exact z
        · rw [show (!decide ((w.length : Int) ≤ most)) = true by simp [z]] at hb
          cases hb
      have h12 : decide (1 ≤ w.length ∧ (w.length : Int) ≤ most) = true := decide_eq_true ⟨by have h1' : (1 : Int) ≤ w.length := h1; omega, h2⟩
      refine str_iter ?_
      refine lc_pure nf (fun _ _ => trivial) (by rw [signsU_mkS, List.length_map]; omega) (fun x hx M' _ k1 k0 g1 g0 => ?_) ?_
      · rw [signsU_mkS] at hx
        obtain ⟨c, hc, rfl⟩ := List.mem_map.mp hx
        have en : nf (.str (mkS [c])) = if isDig c then none else some (.str (mkS [c])) := by
          show (if (tl (mkS [c])).all isDig then none else some _) = _
          rw [tl_mkS]
          simp
        refine ⟨c, rfl, ?_⟩
        rw [show decide (c ∈ ("0123456789" : Str).cps.toList) = isDig c from fig_mem c]
        cases hd : isDig c with
        | true =>
          rw [hd] at en
          exact g0 en
        | false =>
          rw [hd] at en
          exact g1 _ en
      · rw [nf_signs]
        refine ⟨Nat.zero_le _, .inl ?_⟩
        have e1 : ((w.filter fun c => !isDig c).map fun c => U.str (mkS [c])) = ((w.filter fun c => !isDig c).map fun c => mkS [c]).map U.str := by rw [List.map_map]; rfl
        rw [e1]
        refine strs_nil (f := not) (fun s hs => ?_) ?_
        · obtain ⟨c, hc, rfl⟩ := List.mem_map.mp hs
          intro d hd
          rw [tl_mkS, List.mem_singleton] at hd
          rw [hd]
          exact hv c (List.mem_filter.mp hc).1
        · have hall : decide (((w.filter fun c => !isDig c).map fun c => mkS [c]) = []) = w.all isDig := by
            have h2 : w.all isDig = decide (w.all isDig = true) := by cases w.all isDig <;> rfl
            rw [h2]
            refine decide_eq_decide.mpr ?_
            rw [List.map_eq_nil_iff, List.filter_eq_nil_iff]
            simp
          rw [hall]
          cases ha : w.all isDig with
          | false =>
            refine no ?_
            unfold okNum
            rw [h12, ha]
            rfl
          | true =>
            refine ⟨w.length, lenU_mkS w, by omega, ?_⟩
            have fin : (decide (1 < w.length) && decide (w.head? = some 48)) = false → Gz q (.int (numV w)) M := fun hh => by
              unfold numU okNum at hq
              rw [h12, ha, hh] at hq
              exact .here hq
            have done : (decide (1 < w.length) && decide (w.head? = some 48)) = false → (sRet (eB rIntC (eCons (eV 0) eNil))) { nx := fun _ M' => Gz q .non M', rt := Gz q } [some (.str (mkS w)), some (.int most), none] M := fun hh => by
              have hd : NumText.AllDigits (mkS w).cps.toList := fun c hc => by
                have := List.all_eq_true.mp ha c hc
                exact of_decide_eq_true this
              have hw1 : 1 ≤ w.length := by have h1' : (1 : Int) ≤ w.length := h1; omega
              refine ⟨numV w, ?_, by rw [len_mkS]; omega, fin hh⟩
              have := intText_digits (x := mkS w) hd (by
                intro z
                have z' : w = [] := z
                rw [z'] at hw1
                simp at hw1) (by rw [len_mkS]; omega)
              exact this
            refine ifB_dec (fun h3 => ?_) (fun h3 => ?_)
            · have h3' : 1 < w.length := by have : (1 : Int) < w.length := h3; omega
              obtain ⟨c, w', rfl⟩ : ∃ c w', w = c :: w' := by
                cases w with
                | nil => simp at h3'
                | cons c w' => exact ⟨c, w', rfl⟩
              refine ix_str hl (c := c) (atI_nat (j := 0) rfl) ?_
              refine ifB_dec (fun h4 => ?_) (fun h4 => ?_)
              · refine no ?_
                have ec : c = 48 := by
                  have := mkS_eq.mp h4
                  have e0 : tl ("0" : Str) = [48] := by kernel_rfl
                  rw [e0] at this
                  simpa using this
                unfold okNum
                rw [h12, ha, decide_eq_true h3', ec]
                rfl
              · refine done ?_
                have : c ≠ 48 := by
                  intro z
                  refine h4 ?_
                  rw [z]
                  exact mkS_eq.mpr (by kernel_rfl)
                rw [decide_eq_false (show ¬ ((c :: w').head? = some 48) by simpa using this), Bool.and_false]
            · refine done ?_
              have h3' : ¬ 1 < w.length := by have h' : ¬ (1 : Int) < w.length := h3; omega
              rw [decide_eq_false h3']
              rfl
  · refine no ?_
    unfold okNum
    have : ¬ (1 ≤ w.length) := by have h1' : ¬ (1 : Int) ≤ w.length := h1; omega
    rw [decide_eq_false (fun z => this z.1)]
    rfl
end Cw

set_option Elab.async false
set_option linter.all false
set_option maxRecDepth 100000
set_option maxHeartbeats 0
namespace Cw
open PySem PySem.Spec L2 L3
open PyProof.Rows hiding St
theorem split_eq {w : List Nat} {y : Str} {s : Nat} (hy : tl y = [s]) (hs : s < 128) : Txt.split (mkS w) y = (cut s [] w).map mkS := by
  have h := split_cut (x := mkS w) hy hs
  rw [tl_mkS] at h
  refine TL.map_tl_inj ?_
  show (Txt.split (mkS w) y).map tl = _
  rw [h, List.map_map]
  symm
  exact List.map_id _
theorem cut_mem {s : Nat} : ∀ {l acc : List Nat} {p : List Nat}, p ∈ cut s acc l → ∀ c ∈ p, c ∈ acc ∨ c ∈ l
  | [], acc, p, hp, c, hc => by
    have e : p = acc := by simpa [cut] using hp
    subst e
    exact .inl hc
  | x :: r, acc, p, hp, c, hc => by
    rw [cut_cons] at hp
    split at hp
    · rcases List.mem_cons.mp hp with rfl | hp
      · exact .inl hc
      · rcases cut_mem hp c hc with h | h
        · simp at h
        · exact .inr (List.mem_cons_of_mem _ h)
    · rcases cut_mem hp c hc with h | h
      · rcases List.mem_append.mp h with h | h
        · exact .inl h
        · rw [List.mem_singleton.mp h]; exact .inr (List.mem_cons_self ..)
      · exact .inr (List.mem_cons_of_mem _ h)
theorem cut_plen {s : Nat} : ∀ {l acc : List Nat} {p : List Nat}, p ∈ cut s acc l → p.length ≤ acc.length + l.length
  | [], acc, p, hp => by
    have e : p = acc := by simpa [cut] using hp
    subst e
    simp
  | x :: r, acc, p, hp => by
    rw [cut_cons] at hp
    split at hp
    · rcases List.mem_cons.mp hp with rfl | hp
      · omega
      · have := cut_plen hp
        simp only [List.length_nil, List.length_cons] at *
        omega
    · have := cut_plen hp
      simp only [List.length_append, List.length_cons, List.length_nil] at *
      omega
theorem cut_len {s : Nat} : ∀ (l acc : List Nat), (cut s acc l).length ≤ l.length + 1
  | [], acc => by simp [cut]
  | x :: r, acc => by
    rw [cut_cons]
    split
    · have := cut_len r (s := s) []
      simp only [List.length_cons]
      omega
    · have := cut_len r (s := s) (acc ++ [x])
      simp only [List.length_cons]
      omega
theorem cut_valid {s : Nat} {w : List Nat} (h : valid w) {p : List Nat} (hp : p ∈ cut s [] w) : valid p := fun c hc => by
  rcases cut_mem hp c hc with z | z
  · simp at z
  · exact h c z
theorem dTs_map' {α : Type} {f : α → U} {g : α → PyData} : ∀ {l : List α}, (∀ x ∈ l, dT (f x) = some (g x)) → dTs (l.map f) = some (l.map g)
  | [], _ => rfl
  | x :: l, h => by
    rw [List.map_cons, List.map_cons]
    unfold dTs
    rw [h x (List.mem_cons_self ..), dTs_map' fun y hy => h y (List.mem_cons_of_mem _ hy)]
def numD (w : List Nat) (most : Int) : PyData := if okNum w most = true then .int (numV w) else .none
theorem dT_num (w : List Nat) (most : Int) : dT (numU w most) = some (numD w most) := by
  unfold numU numD
  split <;> rfl
theorem canLay_flat : ∀ ds : List PyData, (∀ d ∈ ds, d.canLay0 = true ∧ d.depth = 0) → PyData.canLayAll0 ds = true ∧ PyData.depthAll ds = 0
  | [], _ => ⟨rfl, rfl⟩
  | d :: ds, h => by
    obtain ⟨h1, h2⟩ := canLay_flat ds fun t ht => h t (List.mem_cons_of_mem _ ht)
    obtain ⟨h3, h4⟩ := h d (List.mem_cons_self ..)
    exact ⟨by simp [PyData.canLayAll0, h1, h3], by simp [PyData.depthAll, h2, h4]⟩
theorem okD_flat {ds : List PyData} (h : ∀ d ∈ ds, d.canLay0 = true ∧ d.depth = 0) : okD (.list ds) := by
  obtain ⟨h1, h2⟩ := canLay_flat ds h
  unfold okD SeqAt.shaped
  simp [PyData.canLay0, PyData.depth, h1, h2]
theorem okD_none : okD .none := by
  unfold okD SeqAt.shaped
  simp [PyData.canLay0, PyData.depth]
theorem numD_flat (w : List Nat) (most : Int) : (numD w most).canLay0 = true ∧ (numD w most).depth = 0 := by
  unfold numD
  split <;> simp [PyData.canLay0, PyData.depth]
theorem numD_none (w : List Nat) (most : Int) : PyData.eqv (numD w most) .none = !okNum w most := by
  unfold numD
  cases okNum w most <;> simp [PyData.eqv]
/-- None among numbers -/
theorem none_in {f : Bool → Bool} {ps : List (List Nat)} {most : Int} {M : Mp} {q : QK} (hq : q (.bl (f (ps.any fun w => !okNum w most))) M) : rIn f .non (.lst (ps.map fun w => numU w most)) M q := by
  refine ⟨.none, ps.map fun w => numD w most, rfl, dTs_map' fun w _ => dT_num w most, okD_none, okD_flat fun d hd => ?_, ?_⟩
  · obtain ⟨w, _, rfl⟩ := List.mem_map.mp hd
    exact numD_flat w most
  · rw [List.any_map]
    have e : ((fun z => PyData.eqv z .none) ∘ fun w => numD w most) = fun w => !okNum w most := funext fun w => numD_none w most
    rw [e]
    exact hq
theorem sl_tl : tl ("/" : Str) = [47] := by kernel_rfl
theorem nl_tl : tl ("\n" : Str) = [10] := by kernel_rfl
theorem sp_tl : tl (" " : Str) = [32] := by kernel_rfl
theorem numV_nn (w : List Nat) : 0 ≤ numV w := by unfold numV; omega
def nuf (most : Int) : U → U
  | .str s => numU (tl s) most
  | u => u
/-- [number_in(part, most) for part in parts] -/
theorem lc_nums {K : Frag} {z : SL} {M : Mp} {q : QK} {i : Nat} {ps : List (List Nat)} {most : Int} {vs : List Nat} (hm : most ≤ 600) (hp : ∀ p ∈ ps, p.length ≤ 1000000 ∧ valid p) (hl : ps.length ≤ 1000001) (side : Mp → Prop) (hs : ∀ M', side M')
    (hg : ∀ x : U, getS (setS (wipeS z vs) i (some x)) i = some x) (hq : q (.lst (ps.map fun p => numU p most)) M) :
    lcQ (gN i) tYes' (eCall (sp_number_in K) noW (eCons (eV i) (eCons (eC (.int most)) eNil))) vs z q (ps.map fun p => .str (mkS p)) side M := by
  have h4 := size16
  refine lc_map (nuf most) (fun M' _ => hs M') (by rw [List.length_map]; omega) (fun x hx' M' _ k hk => ?_) ?_
  · obtain ⟨p, hp', rfl⟩ := List.mem_map.mp hx'
    show (match getS (setS (wipeS z vs) i (some (U.str (mkS p)))) i with
      | some v => (fun (xs : List U) (M2 : Mp) => sp_number_in K xs M2 k fun C fs M3 => noW C fs (setS (wipeS z vs) i (some (U.str (mkS p)))) M3) [v, .int most] M'
      | none => False)
    rw [hg]
    exact ⟨p, most, rfl, hm, (hp p hp').1, (hp p hp').2, hk⟩
  · rw [List.map_map]
    exact hq
theorem r_amount_in {K us M q e} (h : sp_amount_in K us M q e) : t_amount_in K { nx := fun _ M' => Gz q .non M', rt := Gz q } (startU n_amount_in.length us) M := by
  obtain ⟨w, rfl, hl, hv, hq⟩ := h
  have hsz := size16
  refine ⟨⟨_, rfl⟩, _, _, rfl, rfl, rfl, by rw [len_mkS]; omega, .inl ?_⟩
  rw [split_eq sl_tl (by decide), List.map_map]
  have hcl := cut_len (s := 47) w []
  have hps : ∀ p ∈ cut 47 [] w, p.length ≤ 1000000 ∧ valid p := fun p hp => ⟨by have := cut_plen hp; simp at this; omega, cut_valid hv hp⟩
  refine seqF_iter (xs := (cut 47 [] w).map fun p => .str (mkS p)) rfl fun side hs => ?_
  refine lc_nums (by decide) hps (by omega) side hs (fun x => rfl) ?_
  unfold amV at hq
  have hne := cut_ne (s := 47) w []
  generalize cut 47 [] w = ps at *
  refine ⟨ps.length, by show some (ps.map (U.str ∘ mkS)).length = _; rw [List.length_map], by omega, ?_⟩
  refine ifB_dec (fun h1 => ?_) (fun h1 => ?_)
  · -- three parts or more
    match ps, hne with
    | [a], _ => exact absurd h1 (show ¬ (2 : Int) < 1 by decide)
    | [a, b], _ => exact absurd h1 (show ¬ (2 : Int) < 2 by decide)
    | a :: b :: c :: r, _ => exact .here hq
  · match ps, hne with
    | a :: b :: c :: r, _ =>
      refine absurd ?_ h1
      show (2 : Int) < ((a :: b :: c :: r).length : Nat)
      simp only [List.length_cons]
      omega
    | [a], _ =>
      refine none_in (f := id) (ps := [a]) ?_
      show ifB (!okNum a 30 || false) _ _
      rw [Bool.or_false]
      cases ha : okNum a 30 with
      | false =>
        refine .here ?_
        simp only [ha, Bool.false_eq_true, if_false] at hq
        exact hq
      | true =>
        refine ⟨1, rfl, by omega, ?_⟩
        refine seqF_ix rfl (i := 0) (v := numU a 30) rfl ?_
        refine ⟨le2, .inl (.here ?_)⟩
        have e : numU a 30 = .int (numV a) := by unfold numU; rw [if_pos ha]
        rw [e]
        simp only [ha, if_true] at hq
        exact hq
    | [a, b], _ =>
      refine none_in (f := id) (ps := [a, b]) ?_
      show ifB (!okNum a 30 || (!okNum b 30 || false)) _ _
      rw [Bool.or_false]
      have no : ¬ (okNum a 30 = true ∧ okNum b 30 = true ∧ 2 ≤ numV b ∧ Int.gcd (numV a) (numV b) = 1) → Gz q .non M := fun hn => by
        simp only [if_neg hn] at hq
        exact .here hq
      cases ha : okNum a 30 with
      | false => exact no fun z => by rw [ha] at z; cases z.1
      | true =>
        cases hb : okNum b 30 with
        | false => exact no fun z => by rw [hb] at z; cases z.2.1
        | true =>
          have ea : numU a 30 = .int (numV a) := by unfold numU; rw [if_pos ha]
          have eb : numU b 30 = .int (numV b) := by unfold numU; rw [if_pos hb]
          refine ⟨2, rfl, by omega, ?_⟩
          refine seqF_unp (xs := [numU a 30, numU b 30]) rfl rfl ?_
          rw [ea, eb]
          refine ifB_dec (fun h2 => ?_) (fun h2 => ?_)
          · have h2' : numV b < 2 := h2
            exact no fun z => by omega
          · have h2' : ¬ numV b < 2 := h2
            refine ⟨numV a, numV b, rfl, numV_nn a, numV_nn b, ?_⟩
            refine ifB_of (fun h3 => ?_) (fun h3 => ?_)
            · refine no fun z => ?_
              rw [show (not (decide (((Int.gcd (numV a) (numV b) : Nat) : Int) = 1))) = false by simp [z.2.2.2]] at h3
              cases h3
            · have h3' : Int.gcd (numV a) (numV b) = 1 := by
                by_cases z : ((Int.gcd (numV a) (numV b) : Nat) : Int) = 1
                · omega
                · rw [show (not (decide (((Int.gcd (numV a) (numV b) : Nat) : Int) = 1))) = true by simp [z]] at h3
                  cases h3
              refine ⟨le2, .inl (.here ?_)⟩
              simp only [if_pos (show okNum a 30 = true ∧ okNum b 30 = true ∧ 2 ≤ numV b ∧ Int.gcd (numV a) (numV b) = 1 from ⟨ha, hb, by omega, h3'⟩)] at hq
              exact hq
end Cw

set_option Elab.async false
set_option linter.all false
set_option maxRecDepth 100000
set_option maxHeartbeats 0
namespace Cw
open PySem PySem.Spec L2 L3
open PyProof.Rows hiding St
/-- words that are something -/
def nef (u : U) : Option U := if u = .str "" then none else some u
theorem nef_words (ps : List (List Nat)) : (ps.map fun p => U.str (mkS p)).filterMap nef = (ps.filter fun w => decide (w ≠ [])).map fun p => .str (mkS p) := by
  induction ps with
  | nil => rfl
  | cons p ps ih =>
    rw [List.map_cons, List.filterMap_cons]
    by_cases h : p = []
    · have e : nef (.str (mkS p)) = none := by unfold nef; rw [h]; exact if_pos rfl
      rw [e, List.filter_cons_of_neg (by simp [h])]
      exact ih
    · have e : nef (.str (mkS p)) = some (.str (mkS p)) := by
        unfold nef
        refine if_neg fun z => h ?_
        injection z with z
        exact mkS_eq.mp z
      rw [e, List.filter_cons_of_pos (by simp [h]), List.map_cons, ← ih]
/-- the lines told so far -/
def toldL (ls : List (List Nat)) : List (Nat × List (List Nat)) := ((ls.map wordsL).zipIdx.map fun p => (p.2, p.1)).filter fun p => decide (p.2 ≠ [])
theorem toldL_snoc (ls : List (List Nat)) (l : List Nat) : toldL (ls ++ [l]) = toldL ls ++ (if wordsL l = [] then [] else [(ls.length, wordsL l)]) := by
  unfold toldL
  rw [List.map_append, List.zipIdx_append, List.map_append, List.filter_append]
  congr 1
  by_cases h : wordsL l = [] <;> simp [h]
theorem toldL_len (ls : List (List Nat)) : (toldL ls).length ≤ ls.length := by
  unfold toldL
  refine Nat.le_trans (List.length_filter_le _ _) ?_
  simp
theorem words_valid {l : List Nat} (h : valid l) {w : List Nat} (hw : w ∈ wordsL l) : valid w := cut_valid h (List.mem_filter.mp hw).1
theorem r_lines_in {K us M q e} (h : sp_lines_in K us M q e) : t_lines_in K { nx := fun _ M' => Gz q .non M', rt := Gz q } (startU n_lines_in.length us) M := by
  obtain ⟨t, rfl, hl, hv, hq⟩ := h
  have hsz := size16
  refine ⟨szs rfl, .inr fun f nf => ?_⟩
  refine ⟨⟨_, rfl⟩, _, _, rfl, rfl, rfl, by rw [len_mkS]; omega, .inl ?_⟩
  rw [split_eq nl_tl (by decide), List.map_map]
  have hlin : linesI t = toldL (cut 10 [] t) := rfl
  have hcl := cut_len (s := 10) t []
  have hps : ∀ p ∈ cut 10 [] t, p.length ≤ 1000000 ∧ valid p := fun p hp => ⟨by have := cut_plen hp; simp at this; omega, cut_valid hv hp⟩
  rw [hlin] at hq
  generalize cut 10 [] t = ls at *
  refine ⟨_, rfl, ?_⟩
  refine ⟨fun i z M' => ∃ (o2 o3 o4 : Option U), z = [some (.str (mkS t)), some (.ref f), o2, o3, o4, none] ∧ M' = put M f (.lst ((toldL (ls.take i)).map lineU)), ⟨_, _, _, rfl, rfl⟩, fun _ _ _ _ => rfl, ?_, ?_⟩
  · rintro i x z M1 hx ⟨o2, o3, o4, rfl, rfl⟩
    obtain ⟨y, hy, rfl⟩ := enumU_get hx
    rw [List.getElem?_map] at hy
    cases el : ls[i]? with
    | none => rw [el] at hy; cases hy
    | some l =>
      rw [el] at hy
      cases hy
      have hil : i < ls.length := (List.getElem?_eq_some_iff.mp el).1
      obtain ⟨hl1, hlv⟩ := hps l (List.mem_of_getElem? el)
      refine seqF_unp rfl rfl ?_
      refine ⟨⟨_, rfl⟩, _, _, rfl, rfl, rfl, by show (mkS l).length + 2 ≤ sizeLine; rw [len_mkS]; omega, .inl ?_⟩
      have es : Txt.split ((fun p => mkS p) l) " " = (cut 32 [] l).map mkS := split_eq sp_tl (by decide)
      rw [show Txt.split (mkS l) " " = (cut 32 [] l).map mkS from split_eq sp_tl (by decide), List.map_map]
      have hcl2 := cut_len (s := 32) l []
      refine seqF_iter (xs := (cut 32 [] l).map fun p => .str (mkS p)) rfl fun side hs => ?_
      refine lc_pure nef (fun M' _ => hs M') (by rw [List.length_map]; omega) (fun x hx' M' _ k1 k0 g1 g0 => ?_) ?_
      · obtain ⟨p, hp', rfl⟩ := List.mem_map.mp hx'
        refine ifB_of (fun hb => ?_) (fun hb => ?_)
        · refine g1 _ ?_
          unfold nef
          refine if_neg fun z => ?_
          injection z with z
          rw [show (not (decide (mkS p = ("" : Str)))) = false by simp [z]] at hb
          cases hb
        · refine g0 ?_
          unfold nef
          refine if_pos ?_
          by_cases z : mkS p = ("" : Str)
          · rw [z]
          · rw [show (not (decide (mkS p = ("" : Str)))) = true by simp [z]] at hb
            cases hb
      · rw [nef_words]
        have eW : ((cut 32 [] l).filter fun w => decide (w ≠ [])) = wordsL l := rfl
        rw [eW]
        have e1 : ((wordsL l).map fun p => U.str (mkS p)) = ((wordsL l).map mkS).map U.str := by rw [List.map_map]; rfl
        refine ⟨Nat.zero_le _, .inl ?_⟩
        rw [e1]
        refine strs_nil (f := not) (fun s hs' => ?_) ?_
        · obtain ⟨w, hw, rfl⟩ := List.mem_map.mp hs'
          exact words_valid hlv hw
        · have ht : ls.take (i + 1) = ls.take i ++ [l] := by rw [List.take_add_one, el]; rfl
          have hti : (ls.take i).length = i := by rw [List.length_take]; omega
          have hsn := toldL_snoc (ls.take i) l
          rw [hti] at hsn
          refine ifB_of (fun hb => ?_) (fun hb => ?_)
          · have hne : wordsL l ≠ [] := by
              intro z
              rw [show (not (decide ((wordsL l).map mkS = []))) = false by simp [z]] at hb
              cases hb
            rw [if_neg hne] at hsn
            refine ⟨⟨f, _, rfl, put_same⟩, ?_⟩
            refine ⟨le2, .inl ?_⟩
            refine ⟨f, _, rfl, put_same, by
              rw [List.length_map]
              have := toldL_len (ls.take i)
              omega, ?_⟩
            refine ⟨_, _, _, rfl, ?_⟩
            rw [put_put, ht, hsn, List.map_append]
            have e2 : (((wordsL l).map mkS).map U.str) = (wordsL l).map fun w => U.str (mkS w) := by rw [List.map_map]; rfl
            rw [e2]
            rfl
          · have he : wordsL l = [] := by
              by_cases z : wordsL l = []
              · exact z
              · rw [show (not (decide ((wordsL l).map mkS = []))) = true by simp [z]] at hb
                cases hb
            rw [if_pos he, List.append_nil] at hsn
            refine ⟨_, _, _, rfl, ?_⟩
            rw [ht, hsn]
  · rintro z M1 ⟨o2, o3, o4, rfl, rfl⟩
    have hlen : (enumU (ls.map (U.str ∘ mkS))).length = ls.length := by rw [enumU_len, List.length_map]
    refine .frz put_same ?_
    rw [drp_put nf]
    refine .here ?_
    rw [hlen, List.take_length]
    exact hq
theorem valid_w {ws : List (List Nat)} (h : okWords ws) {w : List Nat} (hw : w ∈ ws) : w.length ≤ 1000000 ∧ valid w := h.2 w hw
theorem numU_yes {w : List Nat} {most : Int} (h : okNum w most = true) : numU w most = .int (numV w) := by unfold numU; rw [if_pos h]
theorem numU_no {w : List Nat} {most : Int} (h : okNum w most = false) : numU w most = .non := by unfold numU; rw [if_neg (by rw [h]; exact Bool.false_ne_true)]
theorem isN_num (w : List Nat) (most : Int) : isN (numU w most) = !okNum w most := by
  cases h : okNum w most with
  | true => rw [numU_yes h]; rfl
  | false => rw [numU_no h]; rfl
theorem isN_am (o : Option (Int × Int)) : isN (amOU o) = o.isNone := by cases o <;> rfl
theorem r_row_in {K us M q e} (h : sp_row_in K us M q e) : t_row_in K { nx := fun _ M' => Gz q .non M', rt := Gz q } (startU n_row_in.length us) M := by
  obtain ⟨ws, word, rfl, hw, hq⟩ := h
  have hsz := size16
  have no : rowV ws word = none → Gz q .non M := fun h => by rw [h] at hq; exact .here hq
  refine ⟨ws.length, by show some (ws.map _).length = _; rw [List.length_map], by have := hw.1; omega, ?_⟩
  refine ifB_of (fun hb => ?_) (fun hb => ?_)
  · refine no ?_
    have h4 : ws.length ≠ 4 := by
      intro z
      rw [show (not (decide ((ws.length : Int) = 4))) = false by simp [z]] at hb
      cases hb
    unfold rowV
    match ws, h4 with
    | [], _ => rfl
    | [_], _ => rfl
    | [_, _], _ => rfl
    | [_, _, _], _ => rfl
    | [_, _, _, _], h => exact absurd rfl h
    | _ :: _ :: _ :: _ :: _ :: _, _ => rfl
  · have h4 : ws.length = 4 := by
      by_cases z : (ws.length : Int) = 4
      · omega
      · rw [show (not (decide ((ws.length : Int) = 4))) = true by simp [z]] at hb
        cases hb
    match ws, h4 with
    | [a, b, c, d], _ =>
      refine seqF_ix rfl (i := 0) (v := .str (mkS a)) rfl ?_
      refine ifB_of (fun hb => ?_) (fun hb => ?_)
      · refine no ?_
        unfold rowV
        refine if_neg fun z => ?_
        rw [show (not (decide (mkS a = word))) = false by simp [z.1]] at hb
        cases hb
      · have ha : mkS a = word := by
          by_cases z : mkS a = word
          · exact z
          · rw [show (not (decide (mkS a = word))) = true by simp [z]] at hb
            cases hb
        refine seqF_ix rfl (i := 1) (v := .str (mkS b)) rfl ?_
        have vb := valid_w hw (w := b) (by simp)
        refine ⟨b, 2, rfl, by decide, vb.1, vb.2, ?_⟩
        refine seqF_ix rfl (i := 2) (v := .str (mkS c)) rfl ?_
        have vc := valid_w hw (w := c) (by simp)
        refine ⟨c, 2, rfl, by decide, vc.1, vc.2, ?_⟩
        refine seqF_ix rfl (i := 3) (v := .str (mkS d)) rfl ?_
        have vd := valid_w hw (w := d) (by simp)
        refine ⟨d, rfl, vd.1, vd.2, ?_⟩
        have e : rowV [a, b, c, d] word = if mkS a = word ∧ okNum b 2 = true ∧ okNum c 2 = true then (amV d).map fun p => ⟨numV b, numV c, p.1, p.2⟩ else none := rfl
        show ifB (isN (numU b 2)) _ _
        rw [isN_num]
        cases hb2 : okNum b 2 with
        | false =>
          refine no ?_
          rw [e, if_neg (fun z => by rw [hb2] at z; cases z.2.1)]
        | true =>
          show ifB (isN (numU c 2)) _ _
          rw [isN_num]
          cases hc2 : okNum c 2 with
          | false =>
            refine no ?_
            rw [e, if_neg (fun z => by rw [hc2] at z; cases z.2.2)]
          | true =>
            show ifB (isN (amOU (amV d))) _ _
            rw [isN_am]
            rw [if_pos ⟨ha, hb2, hc2⟩] at e
            cases hd : amV d with
            | none =>
              refine no ?_
              rw [e, hd]
              rfl
            | some p =>
              rw [hd] at e
              refine ⟨le3, .inl (.here ?_)⟩
              rw [e] at hq
              rw [numU_yes hb2, numU_yes hc2]
              exact hq
theorem r_many_in {K us M q e} (h : sp_many_in K us M q e) : t_many_in K { nx := fun _ M' => Gz q .non M', rt := Gz q } (startU n_many_in.length us) M := by
  obtain ⟨ws, rfl, hw, hq⟩ := h
  have hsz := size16
  have no : manyV ws = none → Gz q .non M := fun h => by rw [h] at hq; exact .here hq
  refine ⟨ws.length, by show some (ws.map _).length = _; rw [List.length_map], by have := hw.1; omega, ?_⟩
  refine ifB_of (fun hb => ?_) (fun hb => ?_)
  · refine no ?_
    have h2 : ws.length ≠ 2 := by
      intro z
      rw [show (not (decide ((ws.length : Int) = 2))) = false by simp [z]] at hb
      cases hb
    unfold manyV
    match ws, h2 with
    | [], _ => rfl
    | [_], _ => rfl
    | [_, _], h => exact absurd rfl h
    | _ :: _ :: _ :: _, _ => rfl
  · have h2 : ws.length = 2 := by
      by_cases z : (ws.length : Int) = 2
      · omega
      · rw [show (not (decide ((ws.length : Int) = 2))) = true by simp [z]] at hb
        cases hb
    match ws, h2 with
    | [a, b], _ =>
      have e : manyV [a, b] = if mkS a = "places" ∧ okNum b 2 = true ∧ 1 ≤ numV b ∧ numV b ≤ 40 then some (numV b) else none := rfl
      refine seqF_ix rfl (i := 0) (v := .str (mkS a)) rfl ?_
      refine ifB_of (fun hb => ?_) (fun hb => ?_)
      · refine no ?_
        rw [e]
        refine if_neg fun z => ?_
        rw [show (not (decide (mkS a = ("places" : Str)))) = false by simp [z.1]] at hb
        cases hb
      · have ha : mkS a = ("places" : Str) := by
          by_cases z : mkS a = ("places" : Str)
          · exact z
          · rw [show (not (decide (mkS a = ("places" : Str)))) = true by simp [z]] at hb
            cases hb
        refine seqF_ix rfl (i := 1) (v := .str (mkS b)) rfl ?_
        have vb := valid_w hw (w := b) (by simp)
        refine ⟨b, 2, rfl, by decide, vb.1, vb.2, ?_⟩
        show ifB (isN (numU b 2)) _ _
        rw [isN_num]
        cases hb2 : okNum b 2 with
        | false =>
          refine no ?_
          rw [e, if_neg (fun z => by rw [hb2] at z; cases z.2.1)]
        | true =>
          rw [numU_yes hb2]
          refine ifB_dec (fun h1 => ?_) (fun h1 => ?_)
          · refine ifB_of (fun h3 => ?_) (fun h3 => ?_)
            · refine no ?_
              rw [e]
              refine if_neg fun z => ?_
              rw [show (!(decide (numV b ≤ 40))) = false by simp [z.2.2.2]] at h3
              cases h3
            · have h3' : numV b ≤ 40 := by
                by_cases z : numV b ≤ 40
                · exact z
                · rw [show (!(decide (numV b ≤ 40))) = true by simp [z]] at h3
                  cases h3
              refine .here ?_
              rw [e, if_pos ⟨ha, hb2, h1, h3'⟩] at hq
              exact hq
          · refine no ?_
            rw [e]
            exact if_neg fun z => h1 z.2.2.1
end Cw

set_option Elab.async false
set_option linter.all false
set_option maxRecDepth 100000
set_option maxHeartbeats 0
namespace Cw
open PySem PySem.Spec L2 L3
open PyProof.Rows hiding St
theorem isN_row (r : Row) : isN (rowU r) = false := rfl
theorem lines_in_words {t : List Nat} (hl : t.length ≤ 1000000) (hv : valid t) {p : Nat × List (List Nat)} (hp : p ∈ linesI t) : okWords p.2 ∧ p.2 ≠ [] := by
  unfold linesI at hp
  obtain ⟨h1, h2⟩ := List.mem_filter.mp hp
  obtain ⟨⟨w, i⟩, h3, rfl⟩ := List.mem_map.mp h1
  have h4 : w ∈ (cut 10 [] t).map wordsL := by
    have := List.mem_zipIdx h3
    obtain ⟨_, _, h⟩ := this
    rw [h]
    exact List.getElem_mem _
  obtain ⟨l, hlm, rfl⟩ := List.mem_map.mp h4
  have hlen := cut_plen hlm
  have hlv := cut_valid hv hlm
  simp only [List.length_nil, Nat.zero_add] at hlen
  refine ⟨⟨?_, fun w hw => ⟨?_, words_valid hlv hw⟩⟩, of_decide_eq_true h2⟩
  · show (wordsL l).length ≤ 1000000
    cases l with
    | nil => simp [words_nil]
    | cons c r =>
      have h5 : ∀ (x acc : List Nat), ((cut 32 acc x).filter fun w => decide (w ≠ [])).length ≤ x.length + acc.length := by
        intro x
        induction x with
        | nil =>
          intro acc
          unfold cut
          cases acc with
          | nil => simp
          | cons a b => simp
        | cons c x ih =>
          intro acc
          rw [cut_cons]
          split
          · have := ih []
            rw [List.filter_cons]
            split
            · rename_i h
              have : acc ≠ [] := by simpa using h
              have : 1 ≤ acc.length := by
                cases acc with
                | nil => exact absurd rfl this
                | cons _ _ => simp
              simp only [List.length_cons, List.length_nil] at *
              omega
            · simp only [List.length_cons, List.length_nil] at *
              omega
          · have := ih (acc ++ [c])
            simp only [List.length_append, List.length_cons, List.length_nil] at *
            omega
      have := h5 (c :: r) []
      unfold wordsL
      simp only [List.length_nil, Nat.add_zero] at this
      omega
  · have := cut_plen (List.mem_filter.mp hw).1
    simp only [List.length_nil, Nat.zero_add] at this
    omega
theorem none_in_all {f : Bool → Bool} {ps : List (List Nat)} {most : Int} {M : Mp} {q : QK} (h : ∀ w ∈ ps, okNum w most = true) (hq : q (.bl (f false)) M) : rIn f .non (.lst (ps.map fun w => numU w most)) M q := by
  refine none_in ?_
  have : (ps.any fun w => !okNum w most) = false := by
    rw [List.any_eq_false]
    intro w hw
    rw [h w hw]
    simp
  rw [this]
  exact hq
theorem nums_nil {ps : List (List Nat)} {most : Int} {M : Mp} {q : QK} (hq : q (.bl (decide (ps = []))) M) : rEq (.lst (ps.map fun w => numU w most)) (.lst []) M q := by
  refine ⟨.list (ps.map fun w => numD w most), .list [], ?_, rfl, okD_flat fun d hd => ?_, okD_ints [], ?_⟩
  · show (dTs (ps.map fun w => numU w most)).map PyData.list = _
    rw [dTs_map' fun w _ => dT_num w most]; rfl
  · obtain ⟨w, _, rfl⟩ := List.mem_map.mp hd
    exact numD_flat w most
  · have e : PyData.eqv (.list (ps.map fun w => numD w most)) (.list []) = decide (ps = []) := by
      cases ps <;> simp [PyData.eqv, PyData.eqvAll]
    rw [e]; exact hq
theorem canLay_deep (k : Nat) : ∀ ds : List PyData, (∀ d ∈ ds, d.canLay0 = true ∧ d.depth ≤ k) → PyData.canLayAll0 ds = true ∧ PyData.depthAll ds ≤ k
  | [], _ => ⟨rfl, Nat.zero_le _⟩
  | d :: ds, h => by
    obtain ⟨h1, h2⟩ := canLay_deep k ds fun t ht => h t (List.mem_cons_of_mem _ ht)
    obtain ⟨h3, h4⟩ := h d (List.mem_cons_self ..)
    refine ⟨by simp [PyData.canLayAll0, h1, h3], ?_⟩
    simp only [PyData.depthAll]
    omega
theorem okD_deep {ds : List PyData} (h : ∀ d ∈ ds, d.canLay0 = true ∧ d.depth ≤ 40) : okD (.list ds) := by
  obtain ⟨h1, h2⟩ := canLay_deep 40 ds h
  unfold okD SeqAt.shaped
  simp [PyData.canLay0, PyData.depth, h1]
  omega
def lineD (p : Nat × List (List Nat)) : PyData := .tuple [.int p.1, .list (p.2.map fun w => .str (mkS w))]
theorem dT_line (p : Nat × List (List Nat)) : dT (lineU p) = some (lineD p) := by
  have h : dTs (p.2.map fun w => U.str (mkS w)) = some (p.2.map fun w => .str (mkS w)) := dTs_map' fun w _ => rfl
  show (dTs [.int p.1, wordsU p.2]).map PyData.tuple = _
  unfold dTs
  show (match dT (U.int p.1), dTs [wordsU p.2] with | some x, some xs => some (x :: xs) | _, _ => none).map PyData.tuple = _
  unfold dTs
  show (match dT (U.int p.1), (match (dTs (p.2.map fun w => U.str (mkS w))).map PyData.list, dTs [] with | some x, some xs => some (x :: xs) | _, _ => none) with | some x, some xs => some (x :: xs) | _, _ => none).map PyData.tuple = _
  rw [h]
  rfl
theorem lineD_ok {p : Nat × List (List Nat)} (h : okWords p.2) : (lineD p).canLay0 = true ∧ (lineD p).depth ≤ 40 := by
  obtain ⟨h1, h2⟩ := canLay_strs (p.2.map mkS) fun s hs => by
    obtain ⟨w, hw, rfl⟩ := List.mem_map.mp hs
    rw [tl_mkS]
    exact (h.2 w hw).2
  rw [List.map_map] at h1 h2
  have e : (PyData.str ∘ mkS) = fun w => PyData.str (mkS w) := rfl
  rw [e] at h1 h2
  unfold lineD
  refine ⟨?_, ?_⟩
  · simp [PyData.canLay0, PyData.canLayAll0, h1]
  · simp [PyData.depth, PyData.depthAll, h2]
theorem cut2 (a b c : U) : cutU [a, b, c] none (some 2) = [a, b] := rfl

theorem w_take_bad {z : SL} {M : Mp} : True := trivial
theorem r_rows_in {K us M q e} (h : sp_rows_in K us M q e) : t_rows_in K e { nx := fun _ M' => Gz q .non M', rt := Gz q } (startU n_rows_in.length us) M := by
  obtain ⟨t, word, n, rfl, hl, hv, ⟨pre, p, post, hlin, hpre, hbad, rfl⟩, hq⟩ := h
  have hsz := size16
  refine ⟨szs rfl, .inr fun f nf => ?_⟩
  refine ⟨t, rfl, hl, hv, ?_⟩
  have hw : ∀ p ∈ linesI t, okWords p.2 ∧ p.2 ≠ [] := fun p hp' => lines_in_words hl hv hp'
  have hlen : (linesI t).length ≤ 1000001 := by
    have h1 := cut_len (s := 10) t []
    unfold linesI
    refine Nat.le_trans (List.length_filter_le _ _) ?_
    simp
    omega
  rw [hlin] at hw hlen ⊢
  refine seqF_iter rfl fun side hs => ?_
  refine ⟨fun i z M' => i ≤ pre.length ∧ ∃ (xs : List U) (o3 o4 o5 : Option U), z = [some (.str (mkS t)), some (.str word), some (.ref f), o3, o4, o5] ∧ Sub M M' ∧ M' f = some (.lst xs) ∧ xs.length = i, ⟨Nat.zero_le _, [], _, _, _, rfl, .put nf, put_same, rfl⟩, fun _ _ _ _ => hs _, ?_, ?_⟩
  · rintro i x z M1 hx ⟨hi, xs, o3, o4, o5, rfl, hsub, hM, hxl⟩
    rw [List.getElem?_map] at hx
    by_cases hip : i < pre.length
    · have ep : (pre ++ p :: post)[i]? = some pre[i] := by rw [List.getElem?_append_left hip, List.getElem?_eq_getElem hip]
      rw [ep] at hx
      cases hx
      have hmem := List.getElem_mem hip
      obtain ⟨r, hR⟩ := Option.isSome_iff_exists.mp (hpre _ hmem)
      refine seqF_unp (xs := [.int pre[i].1, wordsU pre[i].2]) rfl rfl ?_
      refine ⟨pre[i].2, word, rfl, (hw _ (by simp)).1, ?_⟩
      rw [hR]
      refine ⟨⟨f, _, rfl, hM⟩, f, _, rfl, hM, ?_, ?_⟩
      · simp only [List.length_append, List.length_cons] at hlen
        omega
      · exact ⟨hip, _, _, _, _, rfl, hsub.put_new nf, put_same, by rw [List.length_append, hxl]; rfl⟩
    · have hie : i = pre.length := by omega
      subst hie
      have ep : (pre ++ p :: post)[pre.length]? = some p := by simp
      rw [ep] at hx
      cases hx
      refine seqF_unp (xs := [.int p.1, wordsU p.2]) rfl rfl ?_
      refine ⟨p.2, word, rfl, (hw p (by simp)).1, ?_⟩
      have hn : rowV p.2 word = none := by
        cases hr : rowV p.2 word with
        | none => rfl
        | some r => exact absurd (show okRowL word p.2 by unfold okRowL; rw [hr]; rfl) hbad
      rw [hn]
      exact hq M1 hsub
  · rintro z M1 ⟨hi, _⟩
    rw [List.length_map, List.length_append, List.length_cons] at hi
    omega
theorem r_read_tree {K us M q e} (h : sp_read_tree K us M q e) : t_read_tree K e { nx := fun _ M' => Gz q .non M', rt := Gz q } (startU n_read_tree.length us) M := by
  obtain ⟨t, n, rfl, hl, hv, hb, hq⟩ := h
  exact ⟨t, _, n, rfl, hl, hv, hb, hq⟩
theorem r_read_flow {K us M q e} (h : sp_read_flow K us M q e) : t_read_flow K e { nx := fun _ M' => Gz q .non M', rt := Gz q } (startU n_read_flow.length us) M := by
  obtain ⟨t, n, rfl, hl, hv, hb, hq⟩ := h
  exact ⟨t, _, n, rfl, hl, hv, hb, hq⟩
end Cw

set_option Elab.async false
set_option linter.all false
set_option maxRecDepth 100000
set_option maxHeartbeats 0
namespace Cw
open PySem PySem.Spec L2 L3
open PyProof.Rows hiding St
theorem lines_len {t : List Nat} (hl : t.length ≤ 1000000) : (linesI t).length ≤ 1000001 := by
  have h1 := cut_len (s := 10) t []
  unfold linesI
  refine Nat.le_trans (List.length_filter_le _ _) ?_
  simp
  omega
theorem cut_tail1 {α : Type} (x : U) (ys : List U) : cutU (x :: ys) (some 1) none = ys := by
  unfold cutU
  have h2 : HT.sIx (x :: ys).length 0 (some 1) = 1 := by
    rw [List.length_cons]
    simp [HT.sIx]
  have h3 : HT.sIx (x :: ys).length (x :: ys).length none = (x :: ys).length := by
    simp [HT.sIx]
  rw [h2, h3]
  simp only [List.drop_succ_cons, List.drop_zero, List.length_cons, Nat.add_sub_cancel]
  exact List.take_of_length_le (Nat.le_refl _)
theorem r_read_sides {K us M q e} (h : sp_read_sides K us M q e) : t_read_sides K e { nx := fun _ M' => Gz q .non M', rt := Gz q } (startU n_read_sides.length us) M := by
  obtain ⟨t, n, rfl, hl, hv, ⟨pre, p, post, hlin, hpre, hbad, rfl⟩, hq⟩ := h
  have hsz := size16
  refine ⟨szs rfl, .inr fun f nf => ?_⟩
  refine ⟨t, rfl, hl, hv, ?_⟩
  have hw : ∀ p ∈ linesI t, okWords p.2 ∧ p.2 ≠ [] := fun p hp' => lines_in_words hl hv hp'
  have hlen := lines_len hl
  rw [hlin] at hw hlen ⊢
  refine seqF_iter rfl fun side hs => ?_
  refine ⟨fun i z M' => i ≤ pre.length ∧ ∃ (xs : List U) (o2 o3 o4 : Option U), z = [some (.str (mkS t)), some (.ref f), o2, o3, o4, none] ∧ Sub M M' ∧ M' f = some (.lst xs) ∧ xs.length = i, ⟨Nat.zero_le _, [], _, _, _, rfl, .put nf, put_same, rfl⟩, fun _ _ _ _ => hs _, ?_, ?_⟩
  · rintro i x z M1 hx ⟨hi, xs, o2, o3, o4, rfl, hsub, hM, hxl⟩
    rw [List.getElem?_map] at hx
    obtain ⟨p', ep, hp', hcase⟩ : ∃ p', (pre ++ p :: post)[i]? = some p' ∧ p' ∈ pre ++ p :: post ∧ ((i < pre.length ∧ okSideL p'.2) ∨ (p' = p ∧ ¬ okSideL p'.2)) := by
      by_cases hip : i < pre.length
      · exact ⟨pre[i], by rw [List.getElem?_append_left hip, List.getElem?_eq_getElem hip], by simp, .inl ⟨hip, hpre _ (List.getElem_mem hip)⟩⟩
      · have hie : i = pre.length := by omega
        subst hie
        exact ⟨p, by simp, by simp, .inr ⟨rfl, hbad⟩⟩
    rw [ep] at hx
    cases hx
    have hwp := hw p' hp'
    obtain ⟨a, ws, hws⟩ : ∃ a ws, p'.2 = a :: ws := by
      cases e : p'.2 with
      | nil => exact absurd e hwp.2
      | cons a ws => exact ⟨a, ws, rfl⟩
    refine seqF_unp (xs := [.int p'.1, wordsU p'.2]) rfl rfl ?_
    rw [hws] at hwp hcase ⊢
    have hok' := hwp.1
    have h1 := hok'.1
    simp only [List.length_cons] at h1
    refine ⟨_, rfl, ?_⟩
    have ec : cutU ((a :: ws).map fun w => U.str (mkS w)) (some 1) none = ws.map fun w => .str (mkS w) := by
      rw [List.map_cons]
      exact cut_tail1 (α := Unit) _ _
    refine .inl ?_
    rw [ec]
    refine seqF_iter rfl fun side' hs' => ?_
    refine lc_nums (by decide) (fun w hw' => hok'.2 w (List.mem_cons_of_mem _ hw')) (by omega) side' hs' (fun x => rfl) ?_
    refine seqF_ix rfl (i := 0) (v := .str (mkS a)) (by rw [List.map_cons]; exact atI_nat (j := 0) rfl) ?_
    have sideIff : okSideL (a :: ws) ↔ mkS a = "side" ∧ ws ≠ [] ∧ ∀ w ∈ ws, okNum w 2 = true := by
      constructor
      · rintro ⟨s, a', r', e, h2, h3, h4, _⟩
        cases e
        exact ⟨h2, h3, h4⟩
      · rintro ⟨h2, h3, h4⟩
        exact ⟨_, a, ws, rfl, h2, h3, h4, rfl⟩
    have bad : ¬ okSideL (a :: ws) → p' = p := fun hn => by
      rcases hcase with ⟨_, h⟩ | ⟨h, _⟩
      · exact absurd h hn
      · exact h
    have raise : p' = p → noLine K e p.1 M → ∀ M', Sub M M' → e (He.ga K "NoLine") [("at", .int p'.1)] M' := fun h1 h2 M' s => by rw [h1]; exact h2 M' s
    refine ifB_of (fun hb => ?_) (fun hb => ?_)
    · have hb2 : (not (decide (mkS a = ("side" : Str)))) = true := hb
      simp only [Bool.not_eq_true', decide_eq_false_iff_not] at hb2
      exact raise (bad fun z => hb2 (sideIff.mp z).1) hq M1 hsub
    · have ha : mkS a = "side" := by
        have hb2 : (not (decide (mkS a = ("side" : Str)))) = false := hb
        simpa using hb2
      refine ⟨szs rfl, .inl ?_⟩
      refine nums_nil ?_
      by_cases hne : ws = []
      · rw [decide_eq_true hne]
        exact raise (bad fun z => (sideIff.mp z).2.1 hne) hq M1 hsub
      · rw [decide_eq_false hne]
        refine none_in (f := id) ?_
        cases hany : ws.any (fun w => !okNum w 2) with
        | true =>
          refine raise (bad fun z => ?_) hq M1 hsub
          obtain ⟨w, hw', hn⟩ := List.any_eq_true.mp hany
          rw [(sideIff.mp z).2.2 w hw'] at hn
          cases hn
        | false =>
          have hall : ∀ w ∈ ws, okNum w 2 = true := fun w hw' => by
            have := List.any_eq_false.mp hany w hw'
            simpa using this
          have hgood := sideIff.mpr ⟨ha, hne, hall⟩
          have hip : i < pre.length := by
            rcases hcase with ⟨h, _⟩ | ⟨_, h⟩
            · exact h
            · exact absurd hgood h
          refine ⟨⟨f, _, rfl, hM⟩, ?_⟩
          refine ⟨_, rfl, f, _, rfl, hM, ?_, ?_⟩
          · simp only [List.length_append, List.length_cons] at hlen
            omega
          · exact ⟨hip, _, _, _, _, rfl, hsub.put_new nf, put_same, by rw [List.length_append, hxl]; rfl⟩
  · rintro z M1 ⟨hi, _⟩
    rw [List.length_map, List.length_append, List.length_cons] at hi
    omega
end Cw

set_option Elab.async false
set_option linter.all false
set_option maxRecDepth 100000
set_option maxHeartbeats 0
namespace Cw
open PySem PySem.Spec L2 L3
open PyProof.Rows hiding St
theorem keyT_of {r s : Row} (h : keyR r = keyR s) : keyT r = keyT s := by
  unfold keyR at h
  injection h with h1 h2
  unfold keyT
  rw [h1, h2]
theorem r_read_web {K us M q e} (h : sp_read_web K us M q e) : t_read_web K e { nx := fun _ M' => Gz q .non M', rt := Gz q } (startU n_read_web.length us) M := by
  obtain ⟨t, n, rfl, hl, hv, hbad, hq⟩ := h
  have hsz := size16
  refine ⟨t, rfl, hl, hv, ?_⟩
  have hw : ∀ p ∈ linesI t, okWords p.2 ∧ p.2 ≠ [] := fun p hp' => lines_in_words hl hv hp'
  have hlen := lines_len hl
  have hcl := cut_len (s := 10) t []
  rcases hbad with ⟨h0, hn⟩ | hbad
  · rw [h0]
    refine ⟨szs rfl, .inl ?_⟩
    refine ⟨.list [], .list [], rfl, rfl, okD_ints [], okD_ints [], ?_⟩
    have e0 : PyData.eqv (.list []) (.list []) = true := by simp [PyData.eqv, PyData.eqvAll]
    rw [e0]
    refine ⟨⟨_, rfl⟩, _, _, rfl, rfl, rfl, by rw [len_mkS]; omega, .inl ?_⟩
    rw [split_eq nl_tl (by decide), List.map_map]
    refine ⟨(cut 10 [] t).length, by show some (List.length _) = _; rw [List.length_map], by omega, ?_⟩
    have := hq M (.refl M)
    rw [← hn]
    show e (He.ga K "NoLine") [("at", .int (((n + 1 : Nat) : Int) - 1))] M
    rw [show (((n + 1 : Nat) : Int) - 1) = (n : Int) by omega]
    exact this
  -- there are lines
  obtain ⟨i0, w0, rest, hli, hcase⟩ : ∃ i0 w0 rest, linesI t = (i0, w0) :: rest ∧ ((i0 = n ∧ manyV w0 = none) ∨ ∃ m pre p post rs, rest = pre ++ p :: post ∧ manyV w0 = some m ∧ Paired (fun p r => rowV p.2 "tie" = some r) pre rs ∧ (∀ r ∈ rs, okTie m r) ∧ (rs.map keyR).Nodup ∧ n = p.1 ∧
      (∀ r, rowV p.2 "tie" = some r → okTie m r → keyR r ∈ rs.map keyR)) := by
    rcases hbad with ⟨w0, rest, h1, h2⟩ | ⟨i0, w0, m, pre, p, post, rs, h1, h2⟩
    · exact ⟨n, w0, rest, h1, .inl ⟨rfl, h2⟩⟩
    · exact ⟨i0, w0, _, h1, .inr ⟨m, pre, p, post, rs, rfl, h2⟩⟩
  rw [hli] at hw hlen ⊢
  refine ⟨szs rfl, .inl ?_⟩
  refine ⟨.list (((i0, w0) :: rest).map lineD), .list [], ?_, rfl, okD_deep fun d hd => ?_, okD_ints [], ?_⟩
  · show (dTs (((i0, w0) :: rest).map lineU)).map PyData.list = _
    rw [dTs_map' fun p _ => dT_line p]; rfl
  · obtain ⟨p, hp', rfl⟩ := List.mem_map.mp hd
    exact lineD_ok (hw p hp').1
  have e0 : PyData.eqv (.list (((i0, w0) :: rest).map lineD)) (.list []) = false := by
    simp [PyData.eqv, PyData.eqvAll]
  rw [e0]
  refine seqF_ix (xs := ((i0, w0) :: rest).map lineU) rfl (i := 0) (v := lineU (i0, w0)) (by rw [List.map_cons]; exact atI_nat (j := 0) rfl) ?_
  refine seqF_ix (xs := [.int i0, wordsU w0]) rfl (i := 1) (v := wordsU w0) rfl ?_
  refine ⟨w0, rfl, (hw (i0, w0) (by simp)).1, ?_⟩
  rcases hcase with ⟨rfl, hm⟩ | ⟨m, pre, p, post, rs, rfl, hm, hp, hok, hnd, rfl, hlast⟩
  · rw [hm]
    refine seqF_ix (xs := ((i0, w0) :: rest).map lineU) rfl (i := 0) (v := lineU (i0, w0)) (by rw [List.map_cons]; exact atI_nat (j := 0) rfl) ?_
    refine seqF_ix (xs := [.int i0, wordsU w0]) rfl (i := 0) (v := .int i0) rfl ?_
    exact hq M (.refl M)
  rw [hm]
  refine ⟨szs rfl, .inr fun f nf => ?_⟩
  refine .inr fun d nd => ?_
  refine ⟨_, rfl, ?_⟩
  refine .inl ?_
  rw [List.map_cons, cut_tail1 (α := Unit)]
  have hfd : f ≠ d := by
    intro e
    rw [e, put_same] at nd
    cases nd
  have nd0 : M d = none := by rwa [put_ne (Ne.symm hfd)] at nd
  have hpl : pre.length = rs.length := hp.length
  simp only [List.length_cons, List.length_append] at hlen
  refine seqF_iter rfl fun side hs => ?_
  refine ⟨fun i z M' => i ≤ pre.length ∧ ∃ (o5 o6 o7 : Option U) (xs : List U), z = [some (.str (mkS t)), some (.lst (((i0, w0) :: (pre ++ p :: post)).map lineU)), some (.int m), some (.ref f), some (.ref d), o5, o6, o7] ∧ Sub M M' ∧ M' f = some (.lst xs) ∧ xs.length = i ∧ M' d = some (.dic true false ((rs.take i).map fun r => (keyT r, U.bl true))),
    ⟨Nat.zero_le _, _, _, _, [], rfl, (Sub.put nf).trans (.put nd), by rw [put_ne hfd, put_same], rfl, put_same⟩, fun _ _ _ _ => hs _, ?_, ?_⟩
  · rintro i x z M1 hx ⟨hi, o5, o6, o7, xs, rfl, hsub, hM, hxl, hD⟩
    rw [List.getElem?_map] at hx
    have known : ∀ (r : Row) (M2 : Mp) (q2 : QK), M2 d = some (.dic true false ((rs.take i).map fun r => (keyT r, U.bl true))) → q2 (.bl (decide (keyR r ∈ (rs.take i).map keyR))) M2 → rIn id (U.kt [.int r.i, .int r.j]) (.ref d) M2 q2 := fun r M2 q2 hD2 hq2 => by
      refine in_dic hD2 rfl ?_
      by_cases hk : keyR r ∈ (rs.take i).map keyR
      · rw [decide_eq_true hk] at hq2
        obtain ⟨s, hs', he⟩ := List.mem_map.mp hk
        have := dlook_map_some (key := keyT) (val := fun _ => U.bl true) hs' (fun _ _ _ => rfl)
        rw [keyT_of he] at this
        rw [show dlook ((rs.take i).map fun r => (keyT r, U.bl true)) (U.kt [.int r.i, .int r.j]) = _ from this]
        exact hq2
      · rw [decide_eq_false hk] at hq2
        have := dlook_map_none (key := keyT) (val := fun _ => U.bl true) (l := rs.take i) (k := keyT r) fun s hs' he => hk (List.mem_map.mpr ⟨s, hs', by rw [keyT_inj he]⟩)
        rw [show dlook ((rs.take i).map fun r => (keyT r, U.bl true)) (U.kt [.int r.i, .int r.j]) = _ from this]
        exact hq2
    by_cases hip : i < pre.length
    · have ep : (pre ++ p :: post)[i]? = some pre[i] := by rw [List.getElem?_append_left hip, List.getElem?_eq_getElem hip]
      rw [ep] at hx
      cases hx
      obtain ⟨r, hr, hR⟩ := pd_get hp (List.getElem?_eq_getElem hip)
      have hrm : r ∈ rs := List.mem_of_getElem? hr
      have hri : i < rs.length := (List.getElem?_eq_some_iff.mp hr).1
      refine seqF_unp (xs := [.int pre[i].1, wordsU pre[i].2]) rfl rfl ?_
      refine ⟨pre[i].2, "tie", rfl, (hw pre[i] (by simp)).1, ?_⟩
      rw [hR]
      refine ⟨m, rowU r, r, rfl, isR_rowU r, ?_⟩
      rw [decide_eq_true (show 0 ≤ r.i ∧ r.i < r.j ∧ r.j < m ∧ isW r.a r.b from hok r hrm)]
      refine .inr ⟨show ¬ (HT.sIx 3 0 none = 0 ∧ HT.sIx 3 3 (some 2) = 3) from by decide, ?_⟩
      rw [cut2]
      have hnk : keyR r ∉ (rs.take i).map keyR := by
        intro z
        have h1 := hnd
        rw [← List.take_append_drop i rs, List.map_append, List.nodup_append] at h1
        have h2 : keyR r ∈ (rs.drop i).map keyR := List.mem_map.mpr ⟨r, by
          rw [List.drop_eq_getElem_cons hri]
          have : rs[i] = r := (List.getElem?_eq_some_iff.mp hr).2
          rw [this]
          exact List.mem_cons_self .., rfl⟩
        exact h1.2.2 _ z _ h2 rfl
      refine known r M1 _ hD ?_
      rw [decide_eq_false hnk]
      refine .inr ⟨show ¬ (HT.sIx 3 0 none = 0 ∧ HT.sIx 3 3 (some 2) = 3) from by decide, ?_⟩
      rw [cut2]
      have hno : dlook ((rs.take i).map fun r => (keyT r, U.bl true)) (keyT r) = none := dlook_map_none fun s hs' he => hnk (List.mem_map.mpr ⟨s, hs', by rw [keyT_inj he]⟩)
      refine asL_dic hD ⟨rfl, rfl, ?_, ?_⟩
      · rw [List.length_map, List.length_take]; omega
      have hM2 : (put M1 d (.dic true false (dput ((rs.take i).map fun r => (keyT r, U.bl true)) (U.kt [.int r.i, .int r.j]) (.bl true)))) f = some (.lst xs) := by rw [put_ne hfd]; exact hM
      refine ⟨⟨f, _, rfl, hM2⟩, f, _, rfl, hM2, by omega, ?_⟩
      refine ⟨hip, _, _, _, _, rfl, (hsub.put_new nd0).put_new nf, put_same, by rw [List.length_append, hxl]; rfl, ?_⟩
      rw [put_ne (Ne.symm hfd), put_same, show dput ((rs.take i).map fun r => (keyT r, U.bl true)) (U.kt [.int r.i, .int r.j]) (.bl true) = _ from dput_new hno, List.take_add_one, hr, List.map_append]
      rfl
    · have hie : i = pre.length := by omega
      subst hie
      have ep : (pre ++ p :: post)[pre.length]? = some p := by simp
      rw [ep] at hx
      cases hx
      have htk : rs.take pre.length = rs := by rw [hpl, List.take_length]
      rw [htk] at hD known
      refine seqF_unp (xs := [.int p.1, wordsU p.2]) rfl rfl ?_
      refine ⟨p.2, "tie", rfl, (hw p (by simp)).1, ?_⟩
      cases hR : rowV p.2 "tie" with
      | none => exact hq M1 hsub
      | some r =>
        refine ⟨m, rowU r, r, rfl, isR_rowU r, ?_⟩
        by_cases hok2 : okTie m r
        · rw [decide_eq_true (show 0 ≤ r.i ∧ r.i < r.j ∧ r.j < m ∧ isW r.a r.b from hok2)]
          refine .inr ⟨show ¬ (HT.sIx 3 0 none = 0 ∧ HT.sIx 3 3 (some 2) = 3) from by decide, ?_⟩
          rw [cut2]
          refine known r M1 _ hD ?_
          rw [decide_eq_true (hlast r hR hok2)]
          exact hq M1 hsub
        · rw [decide_eq_false (show ¬ (0 ≤ r.i ∧ r.i < r.j ∧ r.j < m ∧ isW r.a r.b) from hok2)]
          exact hq M1 hsub
  · rintro z M1 ⟨hi, _⟩
    rw [List.length_map, List.length_append, List.length_cons] at hi
    omega
end Cw

set_option Elab.async false
set_option linter.all false
set_option maxRecDepth 100000
set_option maxHeartbeats 0
namespace Cw
open PySem PySem.Spec L2 L3
open PyProof.Rows hiding St
theorem tl_rep {x : Str} {c : Nat} (h : tl x = [c]) (k : Nat) : tl (repS x k) = List.replicate k c := by
  show (List.replicate k (tl x)).flatten = _
  rw [h]
  induction k with
  | zero => rfl
  | succ k ih => rw [List.replicate_succ, List.flatten_cons, ih]; rfl
theorem tl_join {x : Str} {k : Nat} (h : tl x = List.replicate (k + 1) 32) : ∀ ss : List Str, tl (Txt.join x ss) = glue k (ss.map tl)
  | [] => by rw [L3.join_nil]; rfl
  | [s] => by rw [L3.join_one]; rfl
  | s :: t :: r => by
    rw [L3.join_cons2, tl_app, tl_app, h, tl_join h (t :: r)]
    show (tl s ++ List.replicate (k + 1) 32) ++ glue k ((t :: r).map tl) = _
    rw [List.append_assoc]
    rfl
theorem cut_glue : ∀ (ws : List (List Nat)), ws ≠ [] → (∀ w ∈ ws, 32 ∉ w) → cut 32 [] (glue 0 ws) = ws
  | [], h, _ => absurd rfl h
  | [w], _, h => by
    show cut 32 [] w = _
    rw [cut_free (h w (by simp))]; rfl
  | w :: v :: r, _, h => by
    show cut 32 [] (w ++ (32 :: glue 0 (v :: r))) = _
    rw [cut_app, cut_free (h w (by simp)), cut_glue (v :: r) (by simp) fun u hu => h u (List.mem_cons_of_mem _ hu)]
    rfl
theorem glue_valid {k : Nat} : ∀ (ws : List (List Nat)), (∀ w ∈ ws, valid w) → valid (glue k ws)
  | [], _ => fun c hc => by simp [glue] at hc
  | [w], h => h w (by simp)
  | w :: v :: r, h => by
    show valid (w ++ (List.replicate (k + 1) 32 ++ glue k (v :: r)))
    intro c hc
    rcases List.mem_append.mp hc with z | z
    · exact h w (by simp) c z
    · rcases List.mem_append.mp z with z | z
      · rw [List.eq_of_mem_replicate z]; decide
      · exact glue_valid (v :: r) (fun u hu => h u (List.mem_cons_of_mem _ hu)) c z
theorem glue_len (k : Nat) : ∀ (ws : List (List Nat)), (glue k ws).length ≤ (k + 1) * (glue 0 ws).length
  | [] => by simp [glue]
  | [w] => by show w.length ≤ (k + 1) * w.length; exact Nat.le_mul_of_pos_left _ (by omega)
  | w :: v :: r => by
    have ih := glue_len k (v :: r)
    show (w ++ (List.replicate (k + 1) 32 ++ glue k (v :: r))).length ≤ (k + 1) * (w ++ (List.replicate (0 + 1) 32 ++ glue 0 (v :: r))).length
    simp only [List.length_append, List.length_replicate, Nat.mul_add]
    have := Nat.le_mul_of_pos_left w.length (show 0 < k + 1 by omega)
    omega
theorem shut_app {a b : List Nat} (ha : shut a) (hb : shut b) : shut (a ++ b) := by
  rcases hb with rfl | ⟨t, rfl⟩
  · rwa [List.append_nil]
  · exact .inr ⟨a ++ t, by rw [List.append_assoc]⟩
theorem valid_app {a b : List Nat} (ha : valid a) (hb : valid b) : valid (a ++ b) := fun c hc => by
  rcases List.mem_append.mp hc with z | z
  · exact ha c z
  · exact hb c z
theorem valid_rep {k c : Nat} (h : c < 1000) : valid (List.replicate k c) := fun d hd => by rw [List.eq_of_mem_replicate hd]; exact h
/-- the split of a line as it's laid -/
theorem split_line {ws : List Str} (h : ws ≠ []) (hw : ∀ w ∈ ws, okWord w) : Txt.split (Txt.join " " ws) " " = ws := by
  refine TL.map_tl_inj ?_
  show (Txt.split (Txt.join " " ws) " ").map tl = ws.map tl
  rw [split_cut sp_tl (by decide), tl_join (k := 0) sp_tl, cut_glue _ (by simpa using h) fun w hw' => by
    obtain ⟨s, hs, rfl⟩ := List.mem_map.mp hw'
    exact (hw s hs).2.1]
end Cw

set_option Elab.async false
set_option linter.all false
set_option maxRecDepth 100000
set_option maxHeartbeats 0
namespace Cw
open PySem PySem.Spec L2 L3
open PyProof.Rows hiding St
theorem tl_cut1 {x : Str} : tl (Txt.slice x none (some (-1))) = (tl x).dropLast := by
  by_cases h : x.length = 0
  · have e : x = ⟨#[]⟩ := by
      apply PySem.Str.ext'
      exact Array.eq_empty_of_size_eq_zero h
    subst e
    rfl
  · have h2 := slice_closes_to_neg (x := x) (j := -1) (k := -1 + x.length) (by decide) (by omega) rfl
    have h3 := eq_of_beq h2
    rw [h3]
    show ((tl x).drop 0).take (-1 + (x.length : Int) - 0).toNat = _
    rw [List.drop_zero, List.dropLast_eq_take, ← len_tl]
    congr 1
    omega
theorem says_drop {t : List Nat} (h : shut t) : saysL t.dropLast = saysL t := by
  rcases h with rfl | ⟨t', rfl⟩
  · rfl
  · rw [List.dropLast_concat, says_cutoff]
theorem sum_glue : ∀ ws : List (List Nat), (ws.map List.length).sum ≤ (glue 0 ws).length
  | [] => by simp
  | [w] => by simp [glue]
  | w :: v :: r => by
    have ih := sum_glue (v :: r)
    show _ ≤ (w ++ (List.replicate (0 + 1) 32 ++ glue 0 (v :: r))).length
    rw [List.map_cons, List.sum_cons]
    simp only [List.length_append]
    omega
theorem ls_strs (ws : List Str) : strsU (ws.map U.str) = some ws := strsU_map ws
end Cw

set_option Elab.async false
set_option linter.all false
set_option maxRecDepth 100000
set_option maxHeartbeats 0
namespace Cw
open PySem PySem.Spec L2 L3
open PyProof.Rows hiding St
abbrev nL (n : Int) : List Nat := TL.numL n.toNat
theorem sT_tl {i : Int} (h : 0 ≤ i) : tl (sT i) = nL i := by
  have e : i = ((i.toNat : Nat) : Int) := by omega
  have := TL.tl_num i.toNat
  rw [← e] at this
  exact this
theorem nL_val {i : Int} (h : 0 ≤ i) : numV (nL i) = i := by
  unfold numV
  rw [TL.numL_val]
  omega
theorem numL_head : ∀ n : Nat, 1 ≤ n → (TL.numL n).head? ≠ some 48 := by
  intro n
  induction n using Nat.strongRecOn with
  | _ n ih =>
    intro h1
    by_cases h : n < 10
    · rw [TL.numL_lt h]
      simp
      omega
    · rw [TL.numL_step (by omega)]
      have h2 := ih (n / 10) (by omega) (by omega)
      have h3 := TL.numL_ne (n / 10)
      generalize TL.numL (n / 10) = l at *
      cases l with
      | nil => exact absurd rfl h3
      | cons c r => exact h2
theorem okNum_num {n k : Nat} (hk : 0 < k) (h : n < 10 ^ k) : okNum (TL.numL n) (k : Int) = true := by
  have h1 := TL.numL_len hk h
  have h2 : 1 ≤ (TL.numL n).length := List.length_pos_iff.mpr (TL.numL_ne n)
  unfold okNum
  rw [decide_eq_true ⟨h2, by omega⟩, Bool.true_and, Bool.and_eq_true]
  refine ⟨?_, ?_⟩
  · rw [List.all_eq_true]
    intro c hc
    exact decide_eq_true (TL.numL_digits n c hc)
  · by_cases h3 : n < 10
    · rw [TL.numL_lt h3]; rfl
    · rw [decide_eq_false (numL_head n (by omega)), Bool.and_false]; rfl
theorem p102 : (10 : Nat) ^ 2 = 100 := by decide
theorem okNum2 {i : Int} (h0 : 0 ≤ i) (h : i < 100) : okNum (nL i) 2 = true := okNum_num (k := 2) (by decide) (by rw [p102]; omega)
theorem okNum30 {i : Int} (h : big i) : okNum (nL i) 30 = true := okNum_num (k := 30) (by decide) (by
  have e : (10 : Nat) ^ 30 = 1000000000000000000000000000000 := by decide
  have e2 : (10 : Int) ^ 30 = 1000000000000000000000000000000 := by decide
  obtain ⟨h0, h1⟩ := h
  rw [e2] at h1
  rw [e]
  omega)
theorem am_tl {a b : Int} (ha : 0 ≤ a) (hb : 1 ≤ b) : tl (amTxt a b) = if b = 1 then nL a else nL a ++ (47 :: nL b) := by
  unfold amTxt
  by_cases h : b = 1
  · rw [if_pos h, if_pos h, sT_tl ha]
  · rw [if_neg h, if_neg h, tl_app, tl_app, sT_tl ha, sT_tl (by omega), sl_tl, List.append_assoc]
    rfl
theorem nL_free {i : Int} {s : Nat} (h : s < 48 ∨ 57 < s) : s ∉ nL i := TL.numL_free h
theorem amV_am {a b : Int} (ha : big a) (hb : big b) (hb1 : 1 ≤ b) (hg : Int.gcd a b = 1) : amV (tl (amTxt a b)) = some (a, b) := by
  rw [am_tl ha.1 hb1]
  unfold amV
  by_cases h : b = 1
  · rw [if_pos h, cut_free (nL_free (by decide))]
    show (if okNum (nL a) 30 = true then some (numV (nL a), (1 : Int)) else none) = _
    rw [if_pos (okNum30 ha), nL_val ha.1, h]
  · rw [if_neg h, cut_app, cut_free (nL_free (by decide)), cut_free (nL_free (by decide))]
    show (if okNum (nL a) 30 = true ∧ okNum (nL b) 30 = true ∧ 2 ≤ numV (nL b) ∧ Int.gcd (numV (nL a)) (numV (nL b)) = 1 then some (numV (nL a), numV (nL b)) else none) = _
    rw [nL_val ha.1, nL_val hb.1, if_pos ⟨okNum30 ha, okNum30 hb, by omega, hg⟩]
theorem nL_ok {i : Int} : nL i ≠ [] ∧ 32 ∉ nL i ∧ 10 ∉ nL i ∧ valid (nL i) := ⟨TL.numL_ne _, nL_free (by decide), nL_free (by decide), fun c hc => by
  have := TL.numL_digits _ c hc
  omega⟩
theorem word_num {i : Int} (h : 0 ≤ i) : okWord (sT i) := by
  unfold okWord
  rw [sT_tl h]
  exact nL_ok
theorem word_am {a b : Int} (ha : 0 ≤ a) (hb : 1 ≤ b) : okWord (amTxt a b) := by
  unfold okWord
  rw [am_tl ha hb]
  have h1 := nL_ok (i := a)
  have h2 := nL_ok (i := b)
  split
  · exact h1
  · refine ⟨by simp, ?_, ?_, ?_⟩
    · intro hm
      rcases List.mem_append.mp hm with z | z
      · exact h1.2.1 z
      · rcases List.mem_cons.mp z with z | z
        · cases z
        · exact h2.2.1 z
    · intro hm
      rcases List.mem_append.mp hm with z | z
      · exact h1.2.2.1 z
      · rcases List.mem_cons.mp z with z | z
        · cases z
        · exact h2.2.2.1 z
    · exact valid_app h1.2.2.2 (fun c hc => by
        rcases List.mem_cons.mp hc with rfl | hc
        · decide
        · exact h2.2.2.2 c hc)
/-- the lines that say something, as they're told -/
theorem says_lines (t : List Nat) : (linesI t).map (·.2) = saysL t := by
  unfold linesI saysL
  generalize (cut 10 [] t).map wordsL = L
  have h : ∀ (L : List (List (List Nat))) (k : Nat), (((L.zipIdx k).map fun p => (p.2, p.1)).filter fun p => decide (p.2 ≠ [])).map (·.2) = L.filter fun ws => decide (ws ≠ []) := by
    intro L
    induction L with
    | nil => intro k; rfl
    | cons l L ih =>
      intro k
      rw [List.zipIdx_cons, List.map_cons]
      by_cases h : l = []
      · rw [List.filter_cons_of_neg (by simp [h]), List.filter_cons_of_neg (by simp [h]), ih]
      · rw [List.filter_cons_of_pos (by simp [h]), List.filter_cons_of_pos (by simp [h]), List.map_cons, ih]
  exact h L 0
end Cw

set_option Elab.async false
set_option linter.all false
set_option maxRecDepth 100000
set_option maxHeartbeats 0
namespace Cw
open PySem PySem.Spec L2 L3
open PyProof.Rows hiding St
def wsR (w : Str) (r : Row) : List Str := [w, sT r.i, sT r.j, amTxt r.a r.b]
theorem nL_len {i : Int} {k : Nat} (hk : 0 < k) (h : i.toNat < 10 ^ k) : (nL i).length ≤ k := TL.numL_len hk h
theorem nL_len2 {i : Int} (h0 : 0 ≤ i) (h : i < 100) : (nL i).length ≤ 2 := nL_len (by decide) (by rw [p102]; omega)
theorem nL_len30 {i : Int} (h : big i) : (nL i).length ≤ 30 := nL_len (by decide) (by
  have e : (10 : Nat) ^ 30 = 1000000000000000000000000000000 := by decide
  have e2 : (10 : Int) ^ 30 = 1000000000000000000000000000000 := by decide
  obtain ⟨h0, h1⟩ := h
  rw [e2] at h1
  rw [e]
  omega)
theorem rowV_ws {w : Str} {r : Row} (ok : okRow r) : rowV ((wsR w r).map tl) w = some r := by
  obtain ⟨h1, h2, h3, h4, h5, h6, h7, h8⟩ := ok
  show (if mkS (tl w) = w ∧ okNum (tl (sT r.i)) 2 = true ∧ okNum (tl (sT r.j)) 2 = true then (amV (tl (amTxt r.a r.b))).map fun p => (⟨numV (tl (sT r.i)), numV (tl (sT r.j)), p.1, p.2⟩ : Row) else none) = _
  rw [sT_tl h1, sT_tl h3, if_pos ⟨mkS_tl w, okNum2 h1 h2, okNum2 h3 h4⟩, amV_am h5 h6 h7 h8, nL_val h1, nL_val h3]
  rfl
theorem okLine_row {w : Str} {r : Row} (hw : okWord w) (hwl : w.length ≤ 100) (ok : okRow r) : okLine (wsR w r) := by
  obtain ⟨h1, h2, h3, h4, h5, h6, h7, h8⟩ := ok
  refine ⟨by simp [wsR], ?_, by simp [wsR], ?_⟩
  · intro x hx
    simp only [wsR, List.mem_cons, List.not_mem_nil, or_false] at hx
    rcases hx with rfl | rfl | rfl | rfl
    · exact hw
    · exact word_num h1
    · exact word_num h3
    · exact word_am h5.1 h7
  · have h := join_len " " (wsR w r)
    have e1 : (" " : Str).length = 1 := rfl
    have a1 : (sT r.i).length ≤ 2 := by rw [len_tl, sT_tl h1]; exact nL_len2 h1 h2
    have a2 : (sT r.j).length ≤ 2 := by rw [len_tl, sT_tl h3]; exact nL_len2 h3 h4
    have a3 : (amTxt r.a r.b).length ≤ 61 := by
      rw [len_tl, am_tl h5.1 h7]
      have b1 := nL_len30 h5
      have b2 := nL_len30 h6
      split
      · omega
      · rw [List.length_append, List.length_cons]; omega
    rw [e1] at h
    simp only [wsR, List.map_cons, List.map_nil, List.sum_cons, List.sum_nil, List.length_cons, List.length_nil] at h
    show (Txt.join " " [w, sT r.i, sT r.j, amTxt r.a r.b]).length ≤ 1000
    omega
theorem okTie_row {m : Int} {r : Row} (hm : m ≤ 40) (h : okTie m r) : okRow r := by
  obtain ⟨h1, h2, h3, h4, h5, h6, h7, h8⟩ := h
  have hb : r.b ≤ 55440 := by
    rcases Int.lt_or_le 55440 r.b with z | z
    · rw [Int.emod_eq_of_lt (by decide) z] at h8
      cases h8
    · exact z
  have e2 : (10 : Int) ^ 30 = 1000000000000000000000000000000 := by decide
  exact ⟨h1, by omega, by omega, by omega, ⟨h4, by rw [e2]; omega⟩, ⟨by omega, by rw [e2]; omega⟩, h5, h6⟩
theorem word_of {w : Str} {l : List Nat} (h : tl w = l) (h1 : (decide (l ≠ []) && (!l.contains 32 && (!l.contains 10 && l.all fun c => decide (c < 1000)))) = true) : okWord w := by
  simp only [Bool.and_eq_true, decide_eq_true_eq, Bool.not_eq_true', List.all_eq_true] at h1
  obtain ⟨a, b, c, d⟩ := h1
  unfold okWord
  rw [h]
  exact ⟨a, fun z => by simp [z] at b, fun z => by simp [z] at c, fun x hx => d x hx⟩
theorem w_tie : okWord "tie" := word_of (l := [116, 105, 101]) (by kernel_rfl) (by decide)
theorem w_branch : okWord "branch" := word_of (l := [98, 114, 97, 110, 99, 104]) (by kernel_rfl) (by decide)
theorem w_flow : okWord "flow" := word_of (l := [102, 108, 111, 119]) (by kernel_rfl) (by decide)
theorem w_side : okWord "side" := word_of (l := [115, 105, 100, 101]) (by kernel_rfl) (by decide)
theorem w_places : okWord "places" := word_of (l := [112, 108, 97, 99, 101, 115]) (by kernel_rfl) (by decide)
def wsM (m : Int) : List Str := ["places", sT m]
theorem wsM_txt (m : Int) : Txt.join " " (wsM m) = "places " ++ sT m := by
  show Txt.join " " ["places", sT m] = _
  rw [L3.join_cons2, L3.join_one]
  congr 1
theorem okLine_many {m : Int} (h1 : 1 ≤ m) (h2 : m ≤ 40) : okLine (wsM m) := by
  refine ⟨by simp [wsM], ?_, by simp [wsM], ?_⟩
  · intro x hx
    simp only [wsM, List.mem_cons, List.not_mem_nil, or_false] at hx
    rcases hx with rfl | rfl
    · exact w_places
    · exact word_num (by omega)
  · rw [wsM_txt, PySem.Str.length_append]
    have : (sT m).length ≤ 2 := by rw [len_tl, sT_tl (by omega)]; exact nL_len2 (by omega) (by omega)
    have e : ("places " : Str).length = 7 := rfl
    omega
theorem manyV_ws {m : Int} (h1 : 1 ≤ m) (h2 : m ≤ 40) : manyV ((wsM m).map tl) = some m := by
  show (if mkS (tl "places") = "places" ∧ okNum (tl (sT m)) 2 = true ∧ 1 ≤ numV (tl (sT m)) ∧ numV (tl (sT m)) ≤ 40 then some (numV (tl (sT m))) else none) = _
  rw [sT_tl (by omega), nL_val (by omega), if_pos ⟨mkS_tl _, okNum2 (by omega) (by omega), h1, h2⟩]
def wsS (s : List Int) : List Str := "side" :: s.map sT
theorem okLine_side {s : List Int} (h : okSide s) : okLine (wsS s) := by
  obtain ⟨h1, h2, h3⟩ := h
  refine ⟨by simp [wsS], ?_, by simp [wsS]; omega, ?_⟩
  · intro x hx
    rcases List.mem_cons.mp hx with rfl | hx
    · exact w_side
    · obtain ⟨i, hi, rfl⟩ := List.mem_map.mp hx
      exact word_num (h3 i hi).1
  · have h := join_len " " (wsS s)
    have e1 : (" " : Str).length = 1 := rfl
    have e4 : ("side" : Str).length = 4 := rfl
    have h5 := sum_le (B := 2) (ss := s.map sT) fun t ht => by
      obtain ⟨i, hi, rfl⟩ := List.mem_map.mp ht
      rw [len_tl, sT_tl (h3 i hi).1]
      exact nL_len2 (h3 i hi).1 (h3 i hi).2
    rw [e1] at h
    simp only [wsS, List.map_cons, List.sum_cons, List.length_cons, List.length_map] at h h5
    show (Txt.join " " ("side" :: s.map sT)).length ≤ 1000
    omega
theorem isSide_ws {s : List Int} (h : okSide s) : isSide ((wsS s).map tl) s := by
  obtain ⟨h1, h2, h3⟩ := h
  refine ⟨tl "side", (s.map sT).map tl, rfl, mkS_tl _, ?_, ?_, ?_⟩
  · intro z
    have : s = [] := by simpa using z
    rw [this] at h1
    simp at h1
  · intro w hw
    obtain ⟨x, hx, rfl⟩ := List.mem_map.mp hw
    obtain ⟨i, hi, rfl⟩ := List.mem_map.mp hx
    rw [sT_tl (h3 i hi).1]
    exact okNum2 (h3 i hi).1 (h3 i hi).2
  · rw [List.map_map, List.map_map]
    symm
    have : s.map (numV ∘ tl ∘ sT) = s.map id := List.map_congr_left fun i hi => by
      show numV (tl (sT i)) = i
      rw [sT_tl (h3 i hi).1, nL_val (h3 i hi).1]
    show s.map (numV ∘ tl ∘ sT) = s
    rw [this, List.map_id]
/-- pairs of lines that say something -/
theorem lines_paired {α : Type} {F : List (List Nat) → α → Prop} {g : α → List Str} (hF : ∀ x, F ((g x).map tl) x → True) : ∀ {ps : List (Nat × List (List Nat))} {xs : List α}, ps.map (·.2) = (xs.map g).map (fun ws => ws.map tl) → (∀ x ∈ xs, F ((g x).map tl) x) → Paired (fun p x => F p.2 x) ps xs
  | [], [], _, _ => .nil
  | [], _ :: _, h, _ => by simp at h
  | _ :: _, [], h, _ => by simp at h
  | p :: ps, x :: xs, h, k => by
    simp only [List.map_cons, List.cons.injEq] at h
    refine .cons ?_ (lines_paired hF h.2 fun y hy => k y (List.mem_cons_of_mem _ hy))
    rw [h.1]
    exact k x (List.mem_cons_self ..)
end Cw

set_option Elab.async false
set_option linter.all false
set_option maxRecDepth 100000
set_option maxHeartbeats 0
namespace Cw
open PySem PySem.Spec L2 L3
open PyProof.Rows hiding St
theorem okRow_abs {r : Row} (h : okRow r) : r.i.natAbs < 2 ^ 200 ∧ r.j.natAbs < 2 ^ 200 ∧ r.a.natAbs < 2 ^ 200 ∧ r.b.natAbs < 2 ^ 200 := by
  obtain ⟨h1, h2, h3, h4, ⟨h5, h6⟩, ⟨h7, h8⟩, _⟩ := h
  refine ⟨?_, ?_, ?_, ?_⟩ <;> omega
theorem okRow_small {r : Row} (h : okRow r) : smallR r := by
  obtain ⟨h1, h2, h3, h4⟩ := okRow_abs h
  exact ⟨small_of h1, small_of h2, small_of h3, small_of h4⟩
theorem keys_of_lt {rs : List Row} (h : rs.Pairwise ltR) : (rs.map keyR).Nodup := by
  rw [List.nodup_iff_pairwise_ne, List.pairwise_map]
  refine h.imp fun {r s} hrs e => ?_
  unfold keyR at e
  injection e with e1 e2
  unfold ltR at hrs
  omega
theorem told_perm {rs rs' : List Row} (h : rs.Pairwise ltR) (hp' : rs'.Perm rs) : told rs' = rs.filter nz := by
  unfold told
  congr 1
  have h1 : rs.Pairwise (fun a b => leR a b = true) := h.imp fun {r s} hrs => by
    unfold ltR at hrs
    unfold leR
    simp only [decide_eq_true_eq]
    omega
  have h2 := List.pairwise_mergeSort leR_trans leR_total rs'
  have hp : (rs'.mergeSort leR).Perm rs := (List.mergeSort_perm _ _).trans hp'
  refine List.Perm.eq_of_pairwise (fun a b ha hb hab hba => ?_) h2 h1 hp
  have ha' := hp.mem_iff.mp ha
  refine row_at (keys_of_lt h) ha' hb ?_
  unfold leR at hab hba
  simp only [decide_eq_true_eq] at hab hba
  unfold keyR
  rw [show a.i = b.i by omega, show a.j = b.j by omega]
theorem rot_perm (rs : List Row) (t : Nat) : (rs.drop t ++ rs.take t).Perm rs := by
  have := List.perm_append_comm (l₁ := rs.drop t) (l₂ := rs.take t)
  rwa [List.take_append_drop] at this
def rowD (r : Row) : PyData := .tuple [.int r.i, .int r.j, .tuple [.int r.a, .int r.b]]
def sideD (s : List Int) : PyData := .tuple (s.map PyData.int)
theorem dT_row (r : Row) : dT (rowU r) = some (rowD r) := rfl
theorem dTs_ints : ∀ s : List Int, dTs (s.map U.int) = some (s.map PyData.int) := fun s => dTs_map' (f := U.int) (g := PyData.int) (l := s) fun x _ => rfl
theorem dT_side (s : List Int) : dT (sideU s) = some (sideD s) := by
  show (dTs (s.map U.int)).map PyData.tuple = _
  rw [dTs_ints]; rfl
theorem eqvAll_refl : ∀ ds : List PyData, (∀ d ∈ ds, PyData.eqv d d = true) → PyData.eqvAll ds ds = true
  | [], _ => by simp [PyData.eqvAll]
  | d :: ds, h => by
    simp [PyData.eqvAll, h d (List.mem_cons_self ..), eqvAll_refl ds fun e he => h e (List.mem_cons_of_mem _ he)]
theorem eqv_row (r : Row) : PyData.eqv (rowD r) (rowD r) = true := by
  simp [rowD, PyData.eqv, PyData.eqvAll]
theorem eqv_side (s : List Int) : PyData.eqv (sideD s) (sideD s) = true := by
  have := eqvAll_refl (s.map PyData.int) fun d hd => by
    obtain ⟨i, _, rfl⟩ := List.mem_map.mp hd
    simp [PyData.eqv]
  simp [sideD, PyData.eqv, this]
theorem row_lay (r : Row) : (rowD r).canLay0 = true ∧ (rowD r).depth ≤ 40 := by
  simp [rowD, PyData.canLay0, PyData.canLayAll0, PyData.depth, PyData.depthAll]
theorem side_lay (s : List Int) : (sideD s).canLay0 = true ∧ (sideD s).depth ≤ 40 := by
  have h := canLay_flat (s.map PyData.int) fun d hd => by
    obtain ⟨i, _, rfl⟩ := List.mem_map.mp hd
    simp [PyData.canLay0, PyData.depth]
  simp [sideD, PyData.canLay0, PyData.depth, h.1, h.2]
end Cw

set_option Elab.async false
set_option linter.all false
set_option maxRecDepth 100000
set_option maxHeartbeats 0
namespace Cw
open PySem PySem.Spec L2 L3
open PyProof.Rows hiding St
theorem cut_from {xs : List U} {t : Nat} (h : t ≤ xs.length) : cutU xs (some (t : Int)) none = xs.drop t := by
  unfold cutU
  have h2 : HT.sIx xs.length 0 (some (t : Int)) = t := by
    rw [HT.sIx_nat, Nat.min_eq_left h]
  have h3 : HT.sIx xs.length xs.length none = xs.length := by simp [HT.sIx]
  rw [h2, h3]
  exact List.take_of_length_le (by rw [List.length_drop]; omega)
theorem cut_upto {xs : List U} {t : Nat} (h : t ≤ xs.length) : cutU xs none (some (t : Int)) = xs.take t := by
  unfold cutU
  have h2 : HT.sIx xs.length 0 none = 0 := by simp [HT.sIx]
  have h3 : HT.sIx xs.length xs.length (some (t : Int)) = t := by
    rw [HT.sIx_nat, Nat.min_eq_left h]
  rw [h2, h3, List.drop_zero, Nat.sub_zero]
end Cw

set_option Elab.async false
set_option linter.all false
set_option maxRecDepth 100000
set_option maxHeartbeats 0
namespace Cw
open PySem PySem.Spec L2 L3
open PyProof.Rows hiding St
/-! ### texts: lines put together -/
theorem tl_joinN : ∀ ss : List Str, tl (Txt.join "\n" ss) = joinN (ss.map tl)
  | [] => by rw [L3.join_nil]; rfl
  | [s] => by rw [L3.join_one]; rfl
  | s :: t :: r => by
    rw [join_cons2, tl_app, tl_app, tl_joinN (t :: r), nl_tl]
    show tl s ++ [10] ++ joinN _ = tl s ++ 10 :: joinN ((t :: r).map tl)
    simp
theorem says_joinN : ∀ ls : List (List Nat), saysL (joinN ls) = ls.flatMap saysL
  | [] => rfl
  | [w] => by simp [joinN]
  | w :: v :: r => by
    show saysL (w ++ 10 :: joinN (v :: r)) = _
    rw [says_app, says_joinN (v :: r)]
    rfl
theorem cut_notin {s : Nat} : ∀ (l acc : List Nat), s ∉ acc → ∀ p ∈ cut s acc l, s ∉ p
  | [], acc, h, p, hp => by
    unfold cut at hp
    simp only [List.mem_singleton] at hp
    rw [hp]; exact h
  | c :: r, acc, h, p, hp => by
    rw [cut_cons] at hp
    split at hp
    · rcases List.mem_cons.mp hp with rfl | hp
      · exact h
      · exact cut_notin r [] (by simp) p hp
    · rename_i hc
      refine cut_notin r (acc ++ [c]) ?_ p hp
      intro z
      rcases List.mem_append.mp z with z | z
      · exact h z
      · simp only [List.mem_singleton] at z
        exact hc z.symm
theorem says_cut (t : List Nat) : saysL t = (cut 10 [] t).flatMap saysL := by
  have h : ∀ ls : List (List Nat), (∀ l ∈ ls, 10 ∉ l) → (ls.map wordsL).filter (fun ws => decide (ws ≠ [])) = ls.flatMap saysL := by
    intro ls
    induction ls with
    | nil => intro _; rfl
    | cons l ls ih =>
      intro h
      rw [List.flatMap_cons, says_line (h l (List.mem_cons_self ..)), List.map_cons, List.filter_cons]
      rw [ih fun x hx => h x (List.mem_cons_of_mem _ hx)]
      by_cases e : wordsL l = [] <;> simp [e]
  exact h _ (cut_notin t [] (by simp))
end Cw

set_option Elab.async false
set_option linter.all false
set_option maxRecDepth 100000
set_option maxHeartbeats 0
namespace Cw
open PySem PySem.Spec L2 L3
open PyProof.Rows hiding St
theorem r__law_caught {K us M q e} (hx : XcC K (He.ga K "NoLine")) (hm : PySem.W.exmOne K (.ref (He.ga K "NoLine")) (.ref (He.ga K "CutError")) = some true) (h1 : PySem.W.kitOne K (.ref (He.ga K "NoLine")) (.ref (He.ga K "NoLine")) = some true)
    (h2 : PySem.W.kitOne K (.ref (He.ga K "NoLine")) (.type "ValueError") = some true) (h3 : PySem.W.findIn K (.ref (He.ga K "NoLine")) "at" = some none) (h : sp__law_caught K us M q e) : t__law_caught K { nx := fun _ M' => Gz q .non M', rt := Gz q } (startU n__law_caught.length us) M := by
  obtain ⟨w, t, n, rfl, hl, hv, hb, hq⟩ := h
  refine ⟨szs rfl, .inl ?_⟩
  have tail : ∀ M', L3.Sub M M' → ∀ o2 o4 a, M' a = none → (sSeq (sIf (tAnd' (tB' (eB (rIsX K) (eCons (eV 3) (eCons (eC (.ref (He.ga K "NoLine"))) eNil)))) (tAnd' (tB' (eB (rIsX K) (eCons (eV 3) (eCons (eC (.ty "ValueError")) eNil)))) (tNot' (tB' (eB rIsi (eCons (eFldX K (eV 3) "at") (eCons (eC (.ty "bool")) eNil)))))))
    (sRet (eFldX K (eV 3) "at"))
    sNext)
  (sRet (eC .non))) { nx := fun _ M' => Gz q .non M', rt := Gz q } [some (.int w), some (.str (mkS t)), o2, some (.ref a), o4] (put M' a (.exc (He.ga K "NoLine") [("at", .int n)])) := by
    intro M' hs o2 o4 a ha
    refine ⟨a, _, _, _, true, rfl, put_same, hx, rfl, h1, ?_⟩
    refine ⟨a, _, _, _, true, rfl, put_same, hx, rfl, h2, ?_⟩
    refine ⟨a, _, _, _, rfl, put_same, hx, h3, rfl, ?_⟩
    refine ⟨"int", rfl, okN_bool, ?_⟩
    rw [isTy_int_bool]
    refine ⟨a, _, _, _, rfl, put_same, hx, h3, rfl, ?_⟩
    exact .here (hq _ (hs.trans (Sub.put ha)))
  rcases hb with ⟨rfl, hb⟩ | ⟨rfl, hb⟩ | ⟨rfl, hb⟩ | ⟨rfl, hb⟩
  · refine seqF_ix rfl (v := .ref (He.ga K "read_web")) rfl ?_
    refine ⟨_, sp_read_web K, rfl, by simp, t, n, rfl, hl, hv, hb, fun M' hs => ?_⟩
    exact ⟨true, hm, fun _ a ha => tail M' hs _ _ a ha, fun h => by cases h⟩
  · refine seqF_ix rfl (v := .ref (He.ga K "read_tree")) rfl ?_
    refine ⟨_, sp_read_tree K, rfl, by simp, t, n, rfl, hl, hv, hb, fun M' hs => ?_⟩
    exact ⟨true, hm, fun _ a ha => tail M' hs _ _ a ha, fun h => by cases h⟩
  · refine seqF_ix rfl (v := .ref (He.ga K "read_flow")) rfl ?_
    refine ⟨_, sp_read_flow K, rfl, by simp, t, n, rfl, hl, hv, hb, fun M' hs => ?_⟩
    exact ⟨true, hm, fun _ a ha => tail M' hs _ _ a ha, fun h => by cases h⟩
  · refine seqF_ix rfl (v := .ref (He.ga K "read_sides")) rfl ?_
    refine ⟨_, sp_read_sides K, rfl, by simp, t, n, rfl, hl, hv, hb, fun M' hs => ?_⟩
    exact ⟨true, hm, fun _ a ha => tail M' hs _ _ a ha, fun h => by cases h⟩
end Cw

set_option Elab.async false
set_option linter.all false
set_option maxRecDepth 100000
set_option maxHeartbeats 0
namespace Cw
open PySem PySem.Spec L2 L3
open PyProof.Rows hiding St
/-! ### lines by their numbers -/
theorem cut_joinN : ∀ ls : List (List Nat), ls ≠ [] → (∀ l ∈ ls, 10 ∉ l) → cut 10 [] (joinN ls) = ls
  | [], h, _ => absurd rfl h
  | [w], _, h => by
    show cut 10 [] w = _
    rw [cut_free (h w (by simp))]; rfl
  | w :: v :: r, _, h => by
    show cut 10 [] (w ++ 10 :: joinN (v :: r)) = _
    rw [cut_app, cut_free (h w (by simp)), cut_joinN (v :: r) (by simp) fun l hl => h l (List.mem_cons_of_mem _ hl)]
    rfl
def idxL : Nat → List (List Nat) → List (Nat × List (List Nat))
  | _, [] => []
  | k, l :: r => if wordsL l = [] then idxL (k + 1) r else (k, wordsL l) :: idxL (k + 1) r
theorem idxL_eq : ∀ (ls : List (List Nat)) (k : Nat), ((((ls.map wordsL).zipIdx k).map fun p => (p.2, p.1)).filter fun p => decide (p.2 ≠ [])) = idxL k ls
  | [], _ => rfl
  | l :: r, k => by
    rw [List.map_cons, List.zipIdx_cons, List.map_cons]
    unfold idxL
    by_cases h : wordsL l = []
    · rw [List.filter_cons_of_neg (by simp [h]), if_pos h, idxL_eq r (k + 1)]
    · rw [List.filter_cons_of_pos (by simp [h]), if_neg h, idxL_eq r (k + 1)]
theorem linesI_joinN {ls : List (List Nat)} (h0 : ls ≠ []) (h : ∀ l ∈ ls, 10 ∉ l) : linesI (joinN ls) = idxL 0 ls := by
  unfold linesI
  rw [cut_joinN ls h0 h, idxL_eq]
theorem idxL_app : ∀ (a b : List (List Nat)) (k : Nat), idxL k (a ++ b) = idxL k a ++ idxL (k + a.length) b
  | [], b, k => rfl
  | l :: r, b, k => by
    rw [List.cons_append]
    show (if wordsL l = [] then idxL (k + 1) (r ++ b) else (k, wordsL l) :: idxL (k + 1) (r ++ b)) = (if wordsL l = [] then idxL (k + 1) r else (k, wordsL l) :: idxL (k + 1) r) ++ _
    rw [idxL_app r b (k + 1), List.length_cons, show k + 1 + r.length = k + (r.length + 1) by omega]
    split <;> rfl
theorem idxL_say {l : List Nat} {r : List (List Nat)} {k : Nat} (h : wordsL l ≠ []) : idxL k (l :: r) = (k, wordsL l) :: idxL (k + 1) r := if_neg h
theorem idxL_none : ∀ (ls : List (List Nat)) (k : Nat), (∀ l ∈ ls, wordsL l = []) → idxL k ls = []
  | [], _, _ => rfl
  | l :: r, k, h => by
    unfold idxL
    rw [if_pos (h l (List.mem_cons_self ..)), idxL_none r _ fun x hx => h x (List.mem_cons_of_mem _ hx)]
theorem idxL_snd : ∀ (ls : List (List Nat)) (k : Nat), (∀ l ∈ ls, wordsL l ≠ []) → (idxL k ls).map (·.2) = ls.map wordsL
  | [], _, _ => rfl
  | l :: r, k, h => by
    rw [idxL_say (h l (List.mem_cons_self ..)), List.map_cons, List.map_cons, idxL_snd r _ fun x hx => h x (List.mem_cons_of_mem _ hx)]
theorem idxL_mem : ∀ (ls : List (List Nat)) (k : Nat) (p), p ∈ idxL k ls → ∃ l ∈ ls, wordsL l ≠ [] ∧ p.2 = wordsL l
  | [], _, _, h => by cases h
  | l :: r, k, p, h => by
    unfold idxL at h
    by_cases e : wordsL l = []
    · rw [if_pos e] at h
      obtain ⟨x, hx, a⟩ := idxL_mem r _ p h
      exact ⟨x, List.mem_cons_of_mem _ hx, a⟩
    · rw [if_neg e] at h
      rcases List.mem_cons.mp h with rfl | h
      · exact ⟨l, List.mem_cons_self .., e, rfl⟩
      · obtain ⟨x, hx, a⟩ := idxL_mem r _ p h
        exact ⟨x, List.mem_cons_of_mem _ hx, a⟩
theorem blank_words : wordsL [32, 32] = [] := by decide
theorem put_bad {ok : List (List Nat) → Prop} {head more : List (List Nat)} {wr : List Nat} (h10 : ∀ l ∈ head ++ wr :: more, 10 ∉ l) (hh : ∀ l ∈ head, wordsL l = [] ∨ ok (wordsL l)) (hw : wordsL wr ≠ []) (hb : ¬ ok (wordsL wr)) : firstBad ok (joinN (head ++ wr :: more)) head.length := by
  refine ⟨idxL 0 head, (head.length, wordsL wr), idxL (0 + head.length + 1) more, ?_, fun x hx => ?_, hb, rfl⟩
  · rw [linesI_joinN (by simp) h10, idxL_app, idxL_say hw, Nat.zero_add]
  · obtain ⟨l, hl, h1, h2⟩ := idxL_mem _ _ _ hx
    rw [h2]
    exact (hh l hl).resolve_left h1
/-- a line of words -/
def lineW (ws : List Str) : List Nat := glue 0 (ws.map tl)
theorem lineW_10 {ws : List Str} (h : okLine ws) : 10 ∉ lineW ws := by
  have hg : ∀ (ws : List (List Nat)), (∀ w ∈ ws, 10 ∉ w) → 10 ∉ glue 0 ws := by
    intro ws
    induction ws with
    | nil => intro _ h; simp [glue] at h
    | cons w r ih =>
      intro h hm
      cases r with
      | nil => exact h w (by simp) hm
      | cons v r =>
        have hm' : 10 ∈ w ++ (List.replicate (0 + 1) 32 ++ glue 0 (v :: r)) := hm
        rcases List.mem_append.mp hm' with z | z
        · exact h w (by simp) z
        · rcases List.mem_append.mp z with z | z
          · have := List.eq_of_mem_replicate z
            omega
          · exact ih (fun u hu => h u (List.mem_cons_of_mem _ hu)) z
  refine hg _ fun w hw => ?_
  obtain ⟨x, hx, rfl⟩ := List.mem_map.mp hw
  exact (h.2.1 x hx).2.2.1
theorem lineW_words {ws : List Str} (h : okLine ws) : wordsL (lineW ws) = ws.map tl := words_glue 0 _ fun w hw => by
  obtain ⟨x, hx, rfl⟩ := List.mem_map.mp hw
  exact ⟨(h.2.1 x hx).2.1, (h.2.1 x hx).1⟩
theorem lineW_valid {ws : List Str} (h : okLine ws) : valid (lineW ws) := glue_valid _ fun w hw => by
  obtain ⟨x, hx, rfl⟩ := List.mem_map.mp hw
  exact (h.2.1 x hx).2.2.2
theorem lineW_tl (ws : List Str) : tl (Txt.join " " ws) = lineW ws := tl_join (x := " ") (k := 0) sp_tl ws
theorem lineW_len {ws : List Str} (h : okLine ws) : (lineW ws).length ≤ 1000 := by
  rw [← lineW_tl, ← len_tl]; exact h.2.2.2
theorem lineW_ok {ws : List Str} (h : okLine ws) : 10 ∉ lineW ws ∧ valid (lineW ws) ∧ (lineW ws).length ≤ 1000 := ⟨lineW_10 h, lineW_valid h, lineW_len h⟩
theorem lineW_ne {ws : List Str} (h : okLine ws) : wordsL (lineW ws) ≠ [] := by
  rw [lineW_words h]
  have := h.1
  simpa using this
/-- a web's text with a wrong line -/
theorem put_web {m : Int} {rs : List Row} {a b : Nat} {wr : List Nat} {more : List (List Nat)} (h1 : 1 ≤ m) (h2 : m ≤ 40) (hr : ∀ r ∈ rs, okTie m r) (hn : (rs.map keyR).Nodup) (hm : ∀ l ∈ more, 10 ∉ l) (hw10 : 10 ∉ wr) (hw : wordsL wr ≠ [])
    (hb : ∀ r, rowV (wordsL wr) "tie" = some r → okTie m r → keyR r ∈ rs.map keyR) :
    badWeb (joinN ((List.replicate a [] ++ (lineW (wsM m) :: rs.map fun r => lineW (wsR "tie" r)) ++ List.replicate b [32, 32]) ++ wr :: more)) (a + (rs.length + 1) + b) := by
  have ok0 := okLine_many h1 h2
  have okr : ∀ r ∈ rs, okLine (wsR "tie" r) := fun r hr' => okLine_row w_tie (by decide) (okTie_row h2 (hr r hr'))
  have hsnd : (idxL (a + 1) (rs.map fun r => lineW (wsR "tie" r))).map (·.2) = (rs.map (wsR "tie")).map fun ws => ws.map tl := by
    rw [idxL_snd, List.map_map, List.map_map]
    · exact List.map_congr_left fun r hr' => lineW_words (okr r hr')
    · intro l hl
      obtain ⟨r, hr', rfl⟩ := List.mem_map.mp hl
      exact lineW_ne (okr r hr')
  refine .inr (.inr ⟨a, (wsM m).map tl, m, idxL (a + 1) (rs.map fun r => lineW (wsR "tie" r)), (a + (rs.length + 1) + b, wordsL wr), idxL (a + (rs.length + 1) + b + 1) more, rs, ?_, manyV_ws h1 h2, ?_, hr, hn, rfl, hb⟩)
  · rw [linesI_joinN (by simp) ?_]
    · rw [idxL_app, idxL_app, idxL_app, idxL_none (List.replicate a []) _ (fun l hl => by rw [List.eq_of_mem_replicate hl]; rfl), idxL_none (List.replicate b [32, 32]) _ (fun l hl => by rw [List.eq_of_mem_replicate hl]; exact blank_words), idxL_say (lineW_ne ok0), lineW_words ok0, idxL_say hw]
      simp only [List.length_append, List.length_replicate, List.length_cons, List.length_map, List.nil_append, List.append_nil, Nat.zero_add, List.cons_append, Nat.add_assoc]
    · intro l hl
      simp only [List.mem_append, List.mem_cons] at hl
      rcases hl with ((hl | rfl | hl) | hl) | rfl | hl
      · rw [List.eq_of_mem_replicate hl]; simp
      · exact lineW_10 ok0
      · obtain ⟨r, hr', rfl⟩ := List.mem_map.mp hl
        exact lineW_10 (okr r hr')
      · rw [List.eq_of_mem_replicate hl]; decide
      · exact hw10
      · exact hm l hl
  · exact lines_paired (F := fun ws r => rowV ws "tie" = some r) (g := wsR "tie") (fun _ _ => trivial) hsnd fun r hr' => rowV_ws (okTie_row h2 (hr r hr'))
/-- a web's text with a wrong first line -/
theorem put_first {one : List Nat} {more : List (List Nat)} (hm : ∀ l ∈ more, 10 ∉ l) (h10 : 10 ∉ one) (hw : wordsL one ≠ []) (hb : manyV (wordsL one) = none) : badWeb ([10, 32, 10] ++ joinN (one :: more)) 2 := by
  have e : [10, 32, 10] ++ joinN (one :: more) = joinN ([] :: [32] :: one :: more) := rfl
  rw [e]
  refine .inr (.inl ⟨wordsL one, idxL 3 more, ?_, hb⟩)
  rw [linesI_joinN (by simp) ?_]
  · have e1 : idxL 0 ([] :: [32] :: one :: more) = idxL 1 ([32] :: one :: more) := if_pos rfl
    have e2 : idxL 1 ([32] :: one :: more) = idxL 2 (one :: more) := if_pos (by decide)
    rw [e1, e2, idxL_say hw]
  · intro l hl
    simp only [List.mem_cons] at hl
    rcases hl with rfl | rfl | rfl | hl
    · simp
    · decide
    · exact h10
    · exact hm l hl
theorem empties : badWeb [] 0 ∧ badWeb [32] 0 ∧ badWeb [10] 1 ∧ badWeb [32, 32, 10, 32, 10, 10] 3 := ⟨.inl (by decide), .inl (by decide), .inl (by decide), .inl (by decide)⟩
/-! ### lines that are none -/
def goodL (wr : List Nat) : Bool := decide (wordsL wr ≠ []) && (!wr.contains 10 && (wr.all (fun c => decide (c < 1000)) && decide (wr.length ≤ 1000)))
theorem good_of {wr : List Nat} (h : goodL wr = true) : wordsL wr ≠ [] ∧ okL [wr] := by
  unfold goodL at h
  simp only [Bool.and_eq_true, decide_eq_true_eq, Bool.not_eq_true', List.all_eq_true] at h
  obtain ⟨a, b, c, d⟩ := h
  refine ⟨a, Nat.le_of_ble_eq_true rfl, fun l hl => ?_⟩
  rw [List.mem_singleton.mp hl]
  exact ⟨fun z => by simp [z] at b, fun x hx => c x hx, d⟩
def notRow (word : Str) (wr : List Nat) : Bool := goodL wr && (rowV (wordsL wr) word).isNone
def moreB : List (List Nat) := [tl "tie 0 1 1", tl "side 0", tl "places 2"]
theorem wrong_branch : ((wrongL (tl "branch") ++ moreB).all (notRow "branch")) = true := by kernel_rfl
theorem wrong_flow : ((wrongL (tl "flow") ++ moreB).all (notRow "flow")) = true := by kernel_rfl
theorem notRow_bad {word : Str} {wr : List Nat} (h : notRow word wr = true) : wordsL wr ≠ [] ∧ okL [wr] ∧ ¬ okRowL word (wordsL wr) := by
  unfold notRow at h
  rw [Bool.and_eq_true] at h
  obtain ⟨a, b⟩ := good_of h.1
  refine ⟨a, b, fun z => ?_⟩
  have h2 := h.2
  unfold okRowL at z
  cases e : rowV (wordsL wr) word with
  | none => rw [e] at z; cases z
  | some r => rw [e] at h2; cases h2
instance (n : Int) (r : Row) : Decidable (okTie n r) := by unfold okTie; infer_instance
def notTie (m : Int) (wr : List Nat) : Bool := goodL wr && (match rowV (wordsL wr) "tie" with
  | none => true
  | some r => !decide (okTie m r))
theorem notTie_bad {m : Int} {wr : List Nat} (h : notTie m wr = true) : wordsL wr ≠ [] ∧ okL [wr] ∧ ∀ r, rowV (wordsL wr) "tie" = some r → ¬ okTie m r := by
  unfold notTie at h
  rw [Bool.and_eq_true] at h
  obtain ⟨a, b⟩ := good_of h.1
  refine ⟨a, b, fun r hr z => ?_⟩
  have h2 := h.2
  rw [hr] at h2
  simp [z] at h2
def dig2 (n : Nat) : List Nat := if n < 10 then [48 + n] else [48 + n / 10, 48 + n % 10]
theorem nL_dig {m : Int} (h0 : 0 ≤ m) (h : m < 100) : nL m = dig2 m.toNat := by
  unfold nL dig2
  split
  · rename_i h; rw [TL.numL_lt h]
  · rename_i h; rw [TL.numL_step (by omega), TL.numL_lt (by omega)]; rfl
def tiesW (d : List Nat) : List (List Nat) := wrongL (tl "tie") ++ [tl "tie 1 0 1", tl "tie 1 1 1", tl "tie 0 " ++ d ++ tl " 1", tl "tie 0 1 1/13"] ++ [tl "tie 0 1 1000000000001", tl "places " ++ d, tl "branch 0 1 1", tl "flow 0 1 1", tl "side 1"] ++ [tl "tie 0 1 1/110880"]
theorem wrong_ties0 : ((List.range 30).all fun n => (tiesW (dig2 (n + 2))).all (notTie ((n + 2 : Nat) : Int))) = true := by kernel_rfl
theorem wrong_ties {m : Int} (h2 : 2 ≤ m) (h : m < 32) : ∀ wr ∈ tiesW (nL m), notTie m wr = true := by
  have := List.all_eq_true.mp wrong_ties0 (m.toNat - 2) (by simp; omega)
  rw [List.all_eq_true] at this
  rw [show m.toNat - 2 + 2 = m.toNat by omega] at this
  rw [nL_dig (by omega) (by omega)]
  intro wr hwr
  have := this wr hwr
  rwa [show ((m.toNat : Nat) : Int) = m by omega] at this
def firstsL : List (List Nat) := [tl "places", tl "places 0", tl "places 41", tl "places 100", tl "places 03", tl "places 3 3", tl "place 3", tl "tie 0 1 1", tl "3"] ++ [tl "places a"]
theorem wrong_firsts0 : (firstsL.all fun l => goodL l && (manyV (wordsL l)).isNone) = true := by kernel_rfl
theorem wrong_firsts : ∀ l ∈ firstsL, wordsL l ≠ [] ∧ okL [l] ∧ manyV (wordsL l) = none := fun l hl => by
  have h := List.all_eq_true.mp wrong_firsts0 l hl
  rw [Bool.and_eq_true] at h
  obtain ⟨a, b⟩ := good_of h.1
  exact ⟨a, b, Option.isNone_iff_eq_none.mp h.2⟩
def sidesW : List (List Nat) := [tl "side", tl "sides 1", tl "side 100", tl "side 01", tl "side 1 00", tl "side a", tl "side 1 1/2", tl "1", tl "side1", tl "tie 0 1 1"] ++ [tl "side 1 /"]
def sideB (ws : List (List Nat)) : Bool := match ws with
  | [] => false
  | a :: r => decide (mkS a = "side") && (decide (r ≠ []) && r.all fun w => okNum w 2)
theorem wrong_sides0 : (sidesW.all fun l => goodL l && !sideB (wordsL l)) = true := by kernel_rfl
theorem wrong_sides : ∀ l ∈ sidesW, wordsL l ≠ [] ∧ okL [l] ∧ ¬ okSideL (wordsL l) := fun l hl => by
  have h := List.all_eq_true.mp wrong_sides0 l hl
  rw [Bool.and_eq_true] at h
  obtain ⟨a, b⟩ := good_of h.1
  refine ⟨a, b, ?_⟩
  rintro ⟨s, x, r, e, h1, h2, h3, _⟩
  have h4 := h.2
  rw [e] at h4
  unfold sideB at h4
  simp [h1, h2] at h4
  obtain ⟨w, hw, h5⟩ := h4
  rw [h3 w hw] at h5
  cases h5
end Cw

set_option Elab.async false
set_option linter.all false
set_option maxRecDepth 100000
set_option maxHeartbeats 0
namespace Cw
open PySem PySem.Spec L2 L3
open PyProof.Rows hiding St
def strU (l : List Nat) : U := .str (mkS l)
def addF (w : List Nat) (u : U) : U := match u with
  | .str s => strU (w ++ tl s)
  | u => u
theorem mkS_app (a b : List Nat) : mkS a ++ mkS b = mkS (a ++ b) := by
  rw [← mkS_tl (mkS a ++ mkS b), tl_app, tl_mkS, tl_mkS]
theorem app_mkS (a : List Nat) (b : Str) : mkS a ++ b = mkS (a ++ tl b) := by
  rw [← mkS_tl (mkS a ++ b), tl_app, tl_mkS]
def restU : List U := restsL.map strU
theorem r__law_wrong {K us M q e} (h : sp__law_wrong K us M q e) : t__law_wrong K { nx := fun _ M' => Gz q .non M', rt := Gz q } (startU n__law_wrong.length us) M := by
  obtain ⟨w, rfl, hw, hq⟩ := h
  have hsz := size16
  refine ⟨by decide, by decide, by decide, ?_⟩
  refine ⟨szs (by kernel_rfl), ?_⟩
  refine ⟨szs rfl, .inl ?_⟩
  refine ⟨szs rfl, .inl ?_⟩
  refine ⟨_, _, rfl, rfl, szs rfl, .inl ?_⟩
  refine ⟨szs (by kernel_rfl), ?_⟩
  refine ⟨szs (by kernel_rfl), ?_⟩
  refine ⟨szs rfl, .inl ?_⟩
  refine ⟨_, _, rfl, rfl, szs rfl, .inl ?_⟩
  refine seqF_iter rfl fun side hs => ?_
  refine lc_map (addF w) (fun M' _ => hs M') (szs rfl) (fun x hx M' _ k hk => ?_) ?_
  · have hx' : ∃ s : Str, x = .str s ∧ s.length ≤ 100 := by
      have hall : ∀ x ∈ restU, ∃ s : Str, x = .str s ∧ s.length ≤ 100 := fun x hx => by
        obtain ⟨l, hl, rfl⟩ := List.mem_map.mp hx
        refine ⟨mkS l, rfl, ?_⟩
        rw [len_mkS]
        exact of_decide_eq_true (List.all_eq_true.mp (show restsL.all (fun l => decide (l.length ≤ 100)) = true by decide) l hl)
      have e : restU = _ := rfl
      refine hall x ?_
      have e2 : restU = ([.str "", .str " 0", .str " 0 1", .str " 0 1 1 1", .str " a 1 1", .str " 0 1 b", .str " 00 1 1", .str " 0 01 1", .str " 0 1 01", .str " 0 1 2/2", .str " 0 1 4/6"] ++ [.str " 0 1 1/1", .str " 0 1 1/0", .str " 0 1 0/1", .str " 0 1 0/2", .str " 0 1 /2", .str " 0 1 1/", .str " 0 1 /", .str " 0 1 1/2/3"] ++
        [.str " 100 1 1", .str " 0 100 1", .str (" 0 1 " ++ (("1" : Str) ++ repS "0" (30 : Int).toNat)), .str (" 0 1 1/" ++ (("1" : Str) ++ repS "0" (30 : Int).toNat)), .str " 0 1/1 1", .str " 0 1 1/02", .str " 0 1 01/2"] : List U) := by kernel_rfl
      rw [e2]
      exact hx
    obtain ⟨s, rfl, hs100⟩ := hx'
    refine ⟨by rw [len_mkS]; omega, ?_⟩
    rw [app_mkS]
    exact hk
  have e3 : (([.str "", .str " 0", .str " 0 1", .str " 0 1 1 1", .str " a 1 1", .str " 0 1 b", .str " 00 1 1", .str " 0 01 1", .str " 0 1 01", .str " 0 1 2/2", .str " 0 1 4/6"] ++ [.str " 0 1 1/1", .str " 0 1 1/0", .str " 0 1 0/1", .str " 0 1 0/2", .str " 0 1 /2", .str " 0 1 1/", .str " 0 1 /", .str " 0 1 1/2/3"] ++
        [.str " 100 1 1", .str " 0 100 1", .str (" 0 1 " ++ (("1" : Str) ++ repS "0" (30 : Int).toNat)), .str (" 0 1 1/" ++ (("1" : Str) ++ repS "0" (30 : Int).toNat)), .str " 0 1/1 1", .str " 0 1 1/02", .str " 0 1 01/2"] : List U)).map (addF w) = (restsL.map (w ++ ·)).map strU := by
    have e2 : restU = ([.str "", .str " 0", .str " 0 1", .str " 0 1 1 1", .str " a 1 1", .str " 0 1 b", .str " 00 1 1", .str " 0 01 1", .str " 0 1 01", .str " 0 1 2/2", .str " 0 1 4/6"] ++ [.str " 0 1 1/1", .str " 0 1 1/0", .str " 0 1 0/1", .str " 0 1 0/2", .str " 0 1 /2", .str " 0 1 1/", .str " 0 1 /", .str " 0 1 1/2/3"] ++
        [.str " 100 1 1", .str " 0 100 1", .str (" 0 1 " ++ (("1" : Str) ++ repS "0" (30 : Int).toNat)), .str (" 0 1 1/" ++ (("1" : Str) ++ repS "0" (30 : Int).toNat)), .str " 0 1/1 1", .str " 0 1 1/02", .str " 0 1 01/2"] : List U) := by kernel_rfl
    rw [← e2]
    unfold restU
    rw [List.map_map, List.map_map]
    rfl
  refine ⟨by rw [len_mkS]; show _ + 5 ≤ _; omega, ?_⟩
  refine ⟨by rw [len_mkS]; omega, ?_⟩
  refine ⟨by have := Txt.slice_le (mkS w) none (some (-1)); rw [len_mkS] at this; show _ + 6 ≤ _; omega, ?_⟩
  refine ⟨by decide, by decide, by rw [len_mkS]; show w.length * 2 ≤ _; omega, ?_⟩
  refine ⟨by rw [repS_len, len_mkS]; show 2 * w.length + 6 ≤ _; omega, ?_⟩
  refine ⟨szs rfl, .inl ?_⟩
  refine ⟨_, _, rfl, rfl, by rw [List.length_map]; exact szs rfl, .inl ?_⟩
  refine .here ?_
  have := hq M fun _ _ e => e
  have e5 : U.lst ((wrongL w).map fun l => U.str (mkS l)) = U.lst ((([.str "", .str " 0", .str " 0 1", .str " 0 1 1 1", .str " a 1 1", .str " 0 1 b", .str " 00 1 1", .str " 0 01 1", .str " 0 1 01", .str " 0 1 2/2", .str " 0 1 4/6"] ++ [.str " 0 1 1/1", .str " 0 1 1/0", .str " 0 1 0/1", .str " 0 1 0/2", .str " 0 1 /2", .str " 0 1 1/", .str " 0 1 /", .str " 0 1 1/2/3"] ++
        [.str " 100 1 1", .str " 0 100 1", .str (" 0 1 " ++ (("1" : Str) ++ repS "0" (30 : Int).toNat)), .str (" 0 1 1/" ++ (("1" : Str) ++ repS "0" (30 : Int).toNat)), .str " 0 1/1 1", .str " 0 1 1/02", .str " 0 1 01/2"] : List U)).map (addF w) ++ [.str (mkS w ++ "0 1 1"), .str "x 0 1 1", .str "0 1 1", .str (Txt.slice (mkS w) none (some (-1)) ++ " 0 1 1"), .str (repS (mkS w) 2 ++ " 0 1 1")]) := by
    rw [e3]
    unfold wrongL moreL
    rw [List.map_append]
    congr 2
    have a1 : mkS w ++ ("0 1 1" : Str) = mkS (w ++ tl "0 1 1") := app_mkS _ _
    have a2 : ("x 0 1 1" : Str) = mkS (tl "x 0 1 1") := (mkS_tl _).symm
    have a3 : ("0 1 1" : Str) = mkS (tl "0 1 1") := (mkS_tl _).symm
    have a4 : Txt.slice (mkS w) none (some (-1)) ++ (" 0 1 1" : Str) = mkS (w.dropLast ++ tl " 0 1 1") := by
      rw [← mkS_tl (Txt.slice (mkS w) none (some (-1)) ++ _), tl_app, tl_cut1, tl_mkS]
    have a5 : repS (mkS w) 2 ++ (" 0 1 1" : Str) = mkS (w ++ w ++ tl " 0 1 1") := by
      rw [← mkS_tl (repS (mkS w) 2 ++ _), tl_app]
      congr 2
      show (List.replicate 2 w).flatten = _
      simp [List.replicate]
    rw [a1, a4, a5]
    simp only [List.map_cons, List.map_nil, mkS_tl]
  rw [e5] at this
  exact this
end Cw

set_option Elab.async false
set_option linter.all false
set_option maxRecDepth 100000
set_option maxHeartbeats 0
namespace Cw
open PySem PySem.Spec L2 L3
open PyProof.Rows hiding St
theorem add_int {i j k : Int} {M : Mp} {q : QK} (h : i + j = k) (hq : q (.int k) M) : rAdd (.int i) (.int j) M q := by
  show q (.int (i + j)) M
  rw [h]; exact hq
theorem rep_flat {α : Type} (x : α) : ∀ n, (List.replicate n [x]).flatten = List.replicate n x
  | 0 => rfl
  | n + 1 => by rw [List.replicate_succ, List.flatten_cons, rep_flat x n]; rfl
theorem strs_of (ls : List (List Nat)) : strsU (ls.map strU) = some (ls.map mkS) := by
  have : ls.map strU = (ls.map mkS).map U.str := by rw [List.map_map]; rfl
  rw [this, strsU_map]
theorem tl_joinS (ls : List (List Nat)) : tl (Txt.join "\n" (ls.map mkS)) = joinN ls := by
  rw [tl_joinN, List.map_map]
  congr 1
  have : (tl ∘ mkS : List Nat → List Nat) = id := rfl
  rw [this, List.map_id]
theorem r__law_put {K us M q e} (h : sp__law_put K us M q e) : t__law_put K { nx := fun _ M' => Gz q .non M', rt := Gz q } (startU n__law_put.length us) M := by
  obtain ⟨d, ls, wr, f, rfl, hls, hwr, hf, hd, hq⟩ := h
  have hsz := size16
  have hl := hls.1
  refine pop_dk (d := d) (n := 1) hd fun y1 M1 hy0 hy1 hd1 k1 => ?_
  refine ⟨ls.length, by show some (ls.map strU).length = _; rw [List.length_map], by omega, ?_⟩
  refine ⟨by show (0 : Int) < (ls.length : Int) + 1 - f; omega, ?_⟩
  obtain ⟨k, hk, hfk, hkl⟩ : ∃ k : Nat, (f : Int) + y1 % ((ls.length : Int) + 1 - f) = (k : Int) ∧ f ≤ k ∧ k ≤ ls.length := by
    have := mod_ok (i := y1) (j := (ls.length : Int) + 1 - f) (by omega)
    exact ⟨((f : Int) + y1 % ((ls.length : Int) + 1 - f)).toNat, by omega, by omega, by omega⟩
  refine add_int hk ?_
  dsimp only
  refine pop_dk (d := d) (n := 0) hd1 fun y2 M2 hz0 hz1 hd2 k2 => ?_
  refine ⟨szs rfl, .inr fun p1 hp1 => ?_⟩
  refine ⟨p0 rfl, ?_⟩
  obtain ⟨a, ha, ha2⟩ : ∃ a : Nat, y2 % 3 = (a : Int) ∧ a ≤ 2 := ⟨(y2 % 3).toNat, by omega, by omega⟩
  dsimp only
  rw [ha]
  refine ⟨_, put_same, by omega, by omega, by show 1 * (a : Int).toNat ≤ _; omega, .inl ?_⟩
  refine ⟨_, rfl, .inl ?_⟩
  rw [cut_upto (by rw [List.length_map]; exact hkl), Int.toNat_natCast, rep_flat, ← List.map_take]
  refine ⟨_, _, rfl, rfl, by rw [List.length_replicate, List.length_map, List.length_take]; omega, .inl ?_⟩
  refine ⟨szs rfl, .inr fun p2 hp2 => ?_⟩
  refine ⟨div_ok (by decide) (by decide) _, ?_⟩
  refine ⟨p0 rfl, ?_⟩
  obtain ⟨b, hb, hb2⟩ : ∃ b : Nat, y2 / 3 % 2 = (b : Int) ∧ b ≤ 1 := ⟨(y2 / 3 % 2).toNat, by omega, by omega⟩
  dsimp only
  rw [hb]
  refine ⟨_, put_same, by omega, by omega, by show 1 * (b : Int).toNat ≤ _; omega, .inl ?_⟩
  rw [Int.toNat_natCast, rep_flat]
  refine ⟨_, _, rfl, rfl, by rw [List.length_append, List.length_replicate, List.length_replicate, List.length_map, List.length_take]; omega, .inl ?_⟩
  have eH : (List.replicate a (U.str "") ++ (ls.take k).map (fun l => U.str (mkS l)) ++ List.replicate b (U.str "  ")) = (List.replicate a [] ++ ls.take k ++ List.replicate b [32, 32]).map strU := by
    rw [List.map_append, List.map_append, List.map_replicate, List.map_replicate]
    rfl
  rw [eH]
  refine ⟨szs rfl, .inl ?_⟩
  refine ⟨div_ok (by decide) (by decide) _, ?_⟩
  refine ⟨p0 rfl, ?_⟩
  have h3 := mod_ok (i := y2 / 6) (j := 3) (by decide)
  refine pick_lst h3.1 h3.2 fun v hv => ?_
  obtain ⟨x, rfl, hx⟩ : ∃ x : List Nat, v = strU x ∧ okL [x] := by
    simp only [List.mem_cons, List.not_mem_nil, or_false] at hv
    rcases hv with rfl | rfl | rfl
    · exact ⟨wr, rfl, hwr⟩
    · exact ⟨[], rfl, by decide, by simp [valid]⟩
    · exact ⟨tl "nothing 1", by unfold strU; rw [mkS_tl], (good_of (wr := tl "nothing 1") (by kernel_rfl)).2⟩
  have hkeep : Keep d M (put (put M2 p1 (.lst [.str ""])) p2 (.lst [.str "  "])) := ((k1.trans k2).trans (Keep.new hp1)).trans (Keep.new hp2)
  have fin := hq a b k x _ hfk hkl ha2 hb2 hx hkeep
  generalize hHd : (List.replicate a [] ++ ls.take k ++ List.replicate b [32, 32]) = hd at *
  have hhl : hd.length = a + k + b := by rw [← hHd, List.length_append, List.length_append, List.length_replicate, List.length_replicate, List.length_take]; omega
  refine ⟨⟨_, rfl⟩, ?_⟩
  refine ⟨szs rfl, .inl ?_⟩
  refine ⟨_, _, rfl, rfl, by rw [List.length_map, hhl]; show _ + 1 ≤ _; omega, .inl ?_⟩
  refine ⟨_, rfl, .inl ?_⟩
  rw [cut_from (by rw [List.length_map]; exact hkl), ← List.map_drop]
  refine ⟨_, _, rfl, rfl, by rw [List.length_append, List.length_map, List.length_map, hhl, List.length_drop]; show _ + 1 + _ ≤ _; omega, .inl ?_⟩
  refine ⟨szs rfl, .inl ?_⟩
  refine ⟨_, _, rfl, rfl, by rw [List.length_append, List.length_append, List.length_map, List.length_map, hhl, List.length_drop]; show _ + 1 + _ + 1 ≤ _; omega, .inl ?_⟩
  have eA : hd.map strU ++ [U.str (mkS wr)] ++ (ls.drop k).map (fun l => U.str (mkS l)) ++ [strU x] = (hd ++ wr :: (ls.drop k ++ [x])).map strU := by
    have e : (fun l => U.str (mkS l)) = strU := rfl
    rw [e, List.map_append, List.map_cons, List.map_append]
    show _ ++ [strU wr] ++ _ ++ _ = _ ++ strU wr :: (_ ++ [strU x])
    simp only [List.append_assoc, List.singleton_append, List.cons_append, List.nil_append]
  have hall : ∀ l ∈ hd ++ wr :: (ls.drop k ++ [x]), l.length ≤ 1000 := by
    intro l hl
    simp only [List.mem_append, List.mem_cons, List.not_mem_nil, or_false] at hl
    rcases hl with hl | rfl | hl | rfl
    · rw [← hHd] at hl
      simp only [List.mem_append] at hl
      rcases hl with (hl | hl) | hl
      · rw [List.eq_of_mem_replicate hl]; simp
      · exact (hls.2 l (List.mem_of_mem_take hl)).2.2
      · rw [List.eq_of_mem_replicate hl]; simp
    · exact (hwr.2 _ (by simp)).2.2
    · exact (hls.2 l (List.mem_of_mem_drop hl)).2.2
    · exact (hx.2 _ (by simp)).2.2
  have hlen : (hd ++ wr :: (ls.drop k ++ [x])).length ≤ 110 := by
    simp only [List.length_append, List.length_cons, List.length_drop, List.length_nil]
    omega
  rw [eA]
  generalize hd ++ wr :: (ls.drop k ++ [x]) = LL at *
  refine ⟨"\n", _, _, rfl, rfl, strs_of LL, ?_, ?_⟩
  · have hs := sum_le (B := 1000) (ss := LL.map mkS) fun s hs => by
      obtain ⟨l, hl, rfl⟩ := List.mem_map.mp hs
      rw [len_mkS]
      exact hall l hl
    rw [List.length_map] at hs ⊢
    have e1 : ("\n" : Str).length = 1 := rfl
    rw [e1]
    omega
  refine ⟨hd.length, by show some (hd.map strU).length = _; rw [List.length_map], by omega, ?_⟩
  refine ⟨szs rfl, .inl ?_⟩
  refine .here ?_
  have e9 : Txt.join "\n" (LL.map mkS) = mkS (joinN LL) := by rw [← tl_joinS, mkS_tl]
  rw [e9, hhl]
  exact fin
end Cw

set_option Elab.async false
set_option linter.all false
set_option maxRecDepth 100000
set_option maxHeartbeats 0
namespace Cw
open PySem PySem.Spec L2 L3
open PyProof.Rows hiding St
theorem joinN_len : ∀ ls : List (List Nat), (∀ l ∈ ls, l.length ≤ 1000) → (joinN ls).length ≤ 1001 * ls.length
  | [], _ => by simp [joinN]
  | [w], h => by have := h w (by simp); show w.length ≤ _; simp; omega
  | w :: v :: r, h => by
    have ih := joinN_len (v :: r) fun l hl => h l (List.mem_cons_of_mem _ hl)
    have h1 := h w (by simp)
    show (w ++ 10 :: joinN (v :: r)).length ≤ _
    simp only [List.length_append, List.length_cons] at ih ⊢
    omega
theorem joinN_valid : ∀ ls : List (List Nat), (∀ l ∈ ls, valid l) → valid (joinN ls)
  | [], _ => by intro c hc; simp [joinN] at hc
  | [w], h => h w (by simp)
  | w :: v :: r, h => by
    show valid (w ++ 10 :: joinN (v :: r))
    refine valid_app (h w (by simp)) ?_
    intro c hc
    rcases List.mem_cons.mp hc with rfl | hc
    · decide
    · exact joinN_valid (v :: r) (fun l hl => h l (List.mem_cons_of_mem _ hl)) c hc
/-- what _law_put lays -/
def laidL (a k b : Nat) (ls : List (List Nat)) (wr x : List Nat) : List (List Nat) := (List.replicate a [] ++ ls.take k ++ List.replicate b [32, 32]) ++ wr :: (ls.drop k ++ [x])
theorem laid_ok {a k b : Nat} {ls : List (List Nat)} {wr x : List Nat} (hls : okL ls) (hwr : okL [wr]) (hx : okL [x]) (ha : a ≤ 2) (hb : b ≤ 1) (hk : k ≤ ls.length) :
    (∀ l ∈ laidL a k b ls wr x, 10 ∉ l) ∧ (joinN (laidL a k b ls wr x)).length ≤ 1000000 ∧ valid (joinN (laidL a k b ls wr x)) := by
  have hall : ∀ l ∈ laidL a k b ls wr x, 10 ∉ l ∧ valid l ∧ l.length ≤ 1000 := by
    intro l hl
    unfold laidL at hl
    simp only [List.mem_append, List.mem_cons, List.not_mem_nil, or_false] at hl
    rcases hl with ((hl | hl) | hl) | rfl | hl | rfl
    · rw [List.eq_of_mem_replicate hl]; exact ⟨by simp, by intro c hc; simp at hc, by simp⟩
    · exact hls.2 l (List.mem_of_mem_take hl)
    · rw [List.eq_of_mem_replicate hl]; exact ⟨by decide, by simp [valid], by simp⟩
    · exact hwr.2 _ (by simp)
    · exact hls.2 l (List.mem_of_mem_drop hl)
    · exact hx.2 _ (by simp)
  have hlen : (laidL a k b ls wr x).length ≤ 110 := by
    have := hls.1
    unfold laidL
    simp only [List.length_append, List.length_cons, List.length_drop, List.length_nil, List.length_take, List.length_replicate]
    omega
  have h2 := joinN_len _ fun l hl => (hall l hl).2.2
  exact ⟨fun l hl => (hall l hl).1, by omega, joinN_valid _ fun l hl => (hall l hl).2.1⟩
def webL (m : Int) (rs : List Row) : List (List Nat) := lineW (wsM m) :: rs.map fun r => lineW (wsR "tie" r)
theorem webL_ok {m : Int} {rs : List Row} (h1 : 1 ≤ m) (h2 : m ≤ 40) (hr : ∀ r ∈ rs, okTie m r) (hl : rs.length ≤ 20) : okL (webL m rs) := by
  refine ⟨by simp [webL]; omega, fun l hl => ?_⟩
  rcases List.mem_cons.mp hl with rfl | hl
  · exact lineW_ok (okLine_many h1 h2)
  · obtain ⟨r, hr', rfl⟩ := List.mem_map.mp hl
    exact lineW_ok (okLine_row w_tie (by decide) (okTie_row h2 (hr r hr')))
theorem web_fact {m : Int} {rs : List Row} {a k b : Nat} {wr x : List Nat} (h1 : 1 ≤ m) (h2 : m ≤ 40) (hr : ∀ r ∈ rs, okTie m r) (hn : (rs.map keyR).Nodup) (hl : rs.length ≤ 20) (hwr : okL [wr]) (hx : okL [x]) (ha : a ≤ 2) (hb : b ≤ 1) (hk1 : 1 ≤ k) (hk : k ≤ (webL m rs).length)
    (hw : wordsL wr ≠ []) (hbad : ∀ r, rowV (wordsL wr) "tie" = some r → okTie m r → keyR r ∈ (rs.take (k - 1)).map keyR) :
    (joinN (laidL a k b (webL m rs) wr x)).length ≤ 1000000 ∧ valid (joinN (laidL a k b (webL m rs) wr x)) ∧ badBy 0 (joinN (laidL a k b (webL m rs) wr x)) (a + k + b) := by
  obtain ⟨g1, g2, g3⟩ := laid_ok (a := a) (b := b) (webL_ok h1 h2 hr hl) hwr hx ha hb hk
  refine ⟨g2, g3, .inl ⟨rfl, ?_⟩⟩
  have hk' : k - 1 ≤ rs.length := by
    have : (webL m rs).length = rs.length + 1 := by simp [webL]
    omega
  have e : (webL m rs).take k = lineW (wsM m) :: (rs.take (k - 1)).map fun r => lineW (wsR "tie" r) := by
    obtain ⟨j, rfl⟩ : ∃ j, k = j + 1 := ⟨k - 1, by omega⟩
    unfold webL
    rw [List.take_succ_cons, ← List.map_take]; rfl
  have e2 : a + k + b = a + ((rs.take (k - 1)).length + 1) + b := by rw [List.length_take]; omega
  unfold laidL at g1 ⊢
  rw [e, e2]
  rw [e] at g1
  refine put_web h1 h2 (fun r hr' => hr r (List.mem_of_mem_take hr')) (hn.sublist ((List.take_sublist _ _).map _)) (fun l hl => g1 l (by simp only [List.mem_append, List.mem_cons] at hl ⊢; exact .inr (.inr hl))) ((hwr.2 _ (by simp)).1) hw hbad
theorem first_fact {m : Int} {rs : List Row} {one : List Nat} (h1 : 1 ≤ m) (h2 : m ≤ 40) (hr : ∀ r ∈ rs, okTie m r) (hl : rs.length ≤ 20) (ho : okL [one]) (hw : wordsL one ≠ []) (hb : manyV (wordsL one) = none) :
    ([10, 32, 10] ++ joinN (one :: webL m rs)).length ≤ 1000000 ∧ valid ([10, 32, 10] ++ joinN (one :: webL m rs)) ∧ badBy 0 ([10, 32, 10] ++ joinN (one :: webL m rs)) 2 := by
  have hok := webL_ok h1 h2 hr hl
  have hall : ∀ l ∈ one :: webL m rs, 10 ∉ l ∧ valid l ∧ l.length ≤ 1000 := fun l hl => by
    rcases List.mem_cons.mp hl with rfl | hl
    · exact ho.2 _ (by simp)
    · exact hok.2 l hl
  have h3 := joinN_len _ fun l hl => (hall l hl).2.2
  have h4 := hok.1
  refine ⟨by simp only [List.length_append, List.length_cons, List.length_nil] at *; omega, valid_app (by simp [valid]) (joinN_valid _ fun l hl => (hall l hl).2.1), .inl ⟨rfl, put_first (fun l hl => (hok.2 l hl).1) (ho.2 _ (by simp)).1 hw hb⟩⟩
theorem sub_put {M M2 : Mp} {p : Addr} {o : MO} (hp : M p = none) (k : Keep p (put M p o) M2) : L3.Sub M M2 := fun b u e => k b u (mne e hp) (by rw [put_ne (mne e hp)]; exact e)
theorem slice_dk {M : Mp} {d : Addr} {n : Nat} {q : QK} {hi : Nat} (h : Dk M d n) (hn : hi ≤ n) (k : ∀ p, M p = none → ∀ M', Dk M' p hi → (∃ o, M' = put M p o) → q (.ref p) M') : ∃ xs, seqL M (.ref d) = some xs ∧ newL (cutU xs none (some (hi : Int))) M q := by
  obtain ⟨ds, e, r, l⟩ := h
  refine ⟨ds.map U.int, by show (match M d with | some (.lst xs) => some xs | _ => none) = _; rw [e], .inr fun p hp => ?_⟩
  refine k p hp _ ⟨ds.take hi, ?_, fun x hx => r x (List.mem_of_mem_take hx), by rw [List.length_take]; omega⟩ ⟨_, rfl⟩
  rw [put_same, cut_upto (by rw [List.length_map]; omega), List.map_take]
theorem slice_dk2 {M : Mp} {d : Addr} {n : Nat} {q : QK} {lo hi : Nat} (h : Dk M d n) (hn : hi ≤ n) (hl : lo ≤ hi) (k : ∀ p, M p = none → ∀ M', Dk M' p (hi - lo) → (∃ o, M' = put M p o) → q (.ref p) M') : ∃ xs, seqL M (.ref d) = some xs ∧ newL (cutU xs (some (lo : Int)) (some (hi : Int))) M q := by
  obtain ⟨ds, e, r, l⟩ := h
  refine ⟨ds.map U.int, by show (match M d with | some (.lst xs) => some xs | _ => none) = _; rw [e], .inr fun p hp => ?_⟩
  have e2 : cutU (ds.map U.int) (some (lo : Int)) (some (hi : Int)) = (((ds.drop lo).take (hi - lo)).map U.int) := by
    unfold cutU
    rw [HT.sIx_nat, HT.sIx_nat, List.length_map, Nat.min_eq_left (by omega), Nat.min_eq_left (by omega), List.map_take, List.map_drop]
  refine k p hp _ ⟨(ds.drop lo).take (hi - lo), ?_, fun x hx => r x (List.mem_of_mem_drop (List.mem_of_mem_take hx)), by rw [List.length_take, List.length_drop]; omega⟩ ⟨_, rfl⟩
  rw [put_same, e2]
def lineF (w : Str) (u : U) : U := match u with
  | .tup [.int i, .int j, .tup [.int a, .int b]] => .str (lineTxt w ⟨i, j, a, b⟩)
  | u => u
theorem lineF_row (w : Str) (r : Row) : lineF w (rowU r) = .str (lineTxt w r) := rfl
/-- [_law_line(w, row) for row in rows] -/
theorem lc_law {K : Frag} {z : SL} {M : Mp} {q : QK} {i : Nat} {te : TE'} {w : Str} {rs : List Row} {vs : List Nat} (hw : w.length ≤ 100) (hr : ∀ r ∈ rs, smallR r) (hl : rs.length ≤ 100000) (side : Mp → Prop) (hs : ∀ M', side M')
    (hg : ∀ x : U, getS (setS (wipeS z vs) i (some x)) i = some x) (ht : ∀ (x : U) M k, k (.str w) M → te (setS (wipeS z vs) i (some x)) M k) (hq : q (.lst (rs.map fun r => .str (lineTxt w r))) M) :
    lcQ (gN i) tYes' (eCall (sp__law_line K) noW (eCons te (eCons (eV i) eNil))) vs z q (rs.map rowU) side M := by
  have hsz := size16
  refine lc_map (lineF w) (fun M' _ => hs M') (by rw [List.length_map]; omega) (fun x hx' M' _ k hk => ?_) ?_
  · obtain ⟨r, hr', rfl⟩ := List.mem_map.mp hx'
    rw [lineF_row] at hk
    refine ht _ _ _ ?_
    show (match getS (setS (wipeS z vs) i (some (rowU r))) i with
      | some v => (fun (xs : List U) (M2 : Mp) => sp__law_line K (.str w :: xs) M2 k fun C fs M3 => noW C fs (setS (wipeS z vs) i (some (rowU r))) M3) [v] M'
      | none => False)
    rw [hg]
    exact ⟨w, r, rfl, hw, hr r hr', hk⟩
  · rw [List.map_map]
    exact hq
theorem mkS_line (ws : List Str) : mkS (lineW ws) = Txt.join " " ws := by rw [← lineW_tl, mkS_tl]
end Cw

set_option Elab.async false
set_option linter.all false
set_option maxRecDepth 100000
set_option maxHeartbeats 0
namespace Cw
open PySem PySem.Spec L2 L3
open PyProof.Rows hiding St
def slotsW (d : Addr) (m : Int) (ties lines : U) (over : Str) (wr : U) (o7 o8 o9 o10 o12 : Option U) : SL := [some (.ref d), some (.int m), some ties, some lines, none, some (.str over), some wr, o7, o8, o9, o10, none, o12]
theorem tie01 : mkS (lineW (wsR "tie" ⟨0, 1, 1, 1⟩)) = "tie 0 1 1" := by kernel_rfl
theorem tie010 : mkS (lineW (wsR "tie" ⟨0, 1, 0, 1⟩)) = "tie 0 1 0" := by kernel_rfl
theorem row_dup0 : rowV (wordsL (tl "tie  0 1 0")) "tie" = some ⟨0, 1, 0, 1⟩ := by kernel_rfl
theorem row_dup1 : rowV (wordsL (tl "tie 0 1 1")) "tie" = some ⟨0, 1, 1, 1⟩ := by kernel_rfl
theorem good_dup0 : goodL (tl "tie  0 1 0") = true := by kernel_rfl
theorem good_dup1 : goodL (tl "tie 0 1 1") = true := by kernel_rfl
theorem take8 {x : Str} {l : List Nat} (h : tl x = [116, 105, 101, 32, 48, 32, 49, 32] ++ l) : Txt.slice x none (some 8) = "tie 0 1 " := by
  have hl : 8 ≤ x.length := by rw [len_tl, h]; simp
  have h3 := eq_of_beq (slice_closes_toL (x := x) (j := 8) (by decide) (by omega))
  rw [h3]
  show mkS (((tl x).drop 0).take 8) = _
  rw [List.drop_zero, h]
  show mkS [116, 105, 101, 32, 48, 32, 49, 32] = _
  kernel_rfl
theorem line01 {r : Row} (h : keyR r = (0, 1)) : Txt.slice (mkS (lineW (wsR "tie" r))) none (some 8) = "tie 0 1 " := by
  obtain ⟨i, j, a, b⟩ := r
  injection h with h1 h2
  simp only at h1 h2
  subst h1 h2
  refine take8 (l := tl (amTxt a b)) ?_
  show lineW (wsR "tie" ⟨0, 1, a, b⟩) = _
  show tl "tie" ++ (List.replicate 1 32 ++ (tl (sT 0) ++ (List.replicate 1 32 ++ (tl (sT 1) ++ (List.replicate 1 32 ++ tl (amTxt a b)))))) = _
  have e : tl "tie" ++ (List.replicate 1 32 ++ (tl (sT 0) ++ (List.replicate 1 32 ++ (tl (sT 1) ++ List.replicate 1 32)))) = [116, 105, 101, 32, 48, 32, 49, 32] := by kernel_rfl
  rw [← e]
  simp only [List.append_assoc]
def not01 (r : Row) : Bool := !decide (Txt.slice (mkS (lineW (wsR "tie" r))) none (some 8) = "tie 0 1 ")
def keep8 (u : U) : Option U := match u with
  | .str s => if Txt.slice s none (some 8) = "tie 0 1 " then none else some u
  | _ => none
theorem keep8_rows : ∀ rs : List Row, (rs.map fun r => strU (lineW (wsR "tie" r))).filterMap keep8 = (rs.filter not01).map fun r => strU (lineW (wsR "tie" r))
  | [] => rfl
  | r :: rs => by
    rw [List.map_cons, List.filterMap_cons]
    have e : keep8 (strU (lineW (wsR "tie" r))) = if Txt.slice (mkS (lineW (wsR "tie" r))) none (some 8) = "tie 0 1 " then none else some (strU (lineW (wsR "tie" r))) := rfl
    by_cases h : Txt.slice (mkS (lineW (wsR "tie" r))) none (some 8) = "tie 0 1 "
    · rw [e, if_pos h, List.filter_cons_of_neg (by unfold not01; simp [h])]
      exact keep8_rows rs
    · rw [e, if_neg h, List.filter_cons_of_pos (by unfold not01; simp [h]), List.map_cons, ← keep8_rows rs]
theorem webU (m : Int) (rs : List Row) : ([strU (lineW (wsM m))] ++ rs.map fun r => strU (lineW (wsR "tie" r))) = (webL m rs).map strU := by
  unfold webL
  rw [List.map_cons, List.map_map]; rfl
theorem okL4 : okD (.list [.int 0, .int 0, .int 1, .int 3]) := by
  unfold okD SeqAt.shaped
  simp [PyData.canLay0, PyData.canLayAll0, PyData.depth, PyData.depthAll]
theorem eqvL4 : PyData.eqv (.list [.int 0, .int 0, .int 1, .int 3]) (.list [.int 0, .int 0, .int 1, .int 3]) = true := by
  simp [PyData.eqv, PyData.eqvAll]
theorem r__law_webs {K us M q e} (h : sp__law_webs K us M q e) : t__law_webs K { nx := fun _ M' => Gz q .non M', rt := Gz q } (startU n__law_webs.length us) M := by
  obtain ⟨d, rfl, hd, hq⟩ := h
  have hsz := size16
  refine pop_dk (d := d) (n := 59) hd fun y1 M1 hy0 hy1 hd1 k1 => ?_
  refine ⟨p0 rfl, ?_⟩
  have hmm := mod_ok (i := y1) (j := 30) (by decide)
  refine add_int rfl ?_
  dsimp only
  obtain ⟨m, hm, hm2, hm32⟩ : ∃ m : Int, 2 + y1 % 30 = m ∧ 2 ≤ m ∧ m < 32 := ⟨_, rfl, by omega, by omega⟩
  rw [hm]
  have hms : small m := small_of (by have : (40 : Nat) < 2 ^ 200 := by decide
                                     omega)
  refine ⟨d, 50, m, rfl, by omega, by omega, hd1.mono (by omega), fun rs M4 hrl hrok hrs k4 hd4 => ?_⟩
  have hro : ∀ r ∈ rs, okRow r := fun r hr => okTie_row (by omega) (hrok r hr)
  have hsm : ∀ r ∈ rs, smallR r := fun r hr => okRow_small (hro r hr)
  have hnd := keys_of_lt hrs
  have e7 : (("places " : Str)).length = 7 := rfl
  have hmT := sT_len hms
  refine ⟨hms, ?_⟩
  refine ⟨by show 7 + (sT m).length ≤ sizeLine; omega, ?_⟩
  refine ⟨szs rfl, .inl ?_⟩
  refine seqF_iter rfl fun side hs => ?_
  refine lc_law (by decide) hsm (by omega) side hs (fun x => rfl) (fun _ _ _ h => h) ?_
  refine ⟨_, _, rfl, rfl, by rw [List.length_map]; show 1 + _ ≤ sizeLine; omega, .inl ?_⟩
  have eL : ([U.str ("places " ++ PySem.Str.ofString (toString m))] ++ rs.map fun r => U.str (lineTxt "tie" r)) = (webL m rs).map strU := by
    unfold webL strU
    show [U.str ("places " ++ sT m)] ++ _ = _
    rw [List.map_cons, List.map_map, mkS_line, wsM_txt]
    have : (fun r => U.str (lineTxt "tie" r)) = (fun l => U.str (mkS l)) ∘ fun r => lineW (wsR "tie" r) := by
      funext r
      show _ = U.str (mkS (lineW (wsR "tie" r)))
      rw [mkS_line]; rfl
    rw [this]; rfl
  rw [eL]
  have hok := webL_ok (m := m) (rs := rs) (by omega) (by omega) hrok (by omega)
  have hwl : (webL m rs).length = rs.length + 1 := by simp [webL]
  -- wrong lines
  refine ⟨hms, ?_⟩
  refine ⟨tl "tie", congrArg (fun s => [U.str s]) (mkS_tl "tie").symm, by decide, fun M5 s5 => ?_⟩
  have e6 : (("tie 0 " : Str)).length = 6 := rfl
  refine ⟨by show 6 + (sT m).length ≤ sizeLine; omega, ?_⟩
  refine ⟨by rw [PySem.Str.length_append, e6]; show 6 + (sT m).length + 2 ≤ sizeLine; omega, ?_⟩
  refine ⟨szs rfl, .inl ?_⟩
  refine ⟨_, _, rfl, rfl, szs rfl, .inl ?_⟩
  refine ⟨by show 7 + (sT m).length ≤ sizeLine; omega, ?_⟩
  refine ⟨szs rfl, .inl ?_⟩
  refine ⟨_, _, rfl, rfl, szs rfl, .inr fun pw hpw => ?_⟩
  refine ⟨⟨pw, _, rfl, put_same⟩, pw, _, rfl, put_same, szs rfl, ?_⟩
  rw [put_put]
  have eW : ((wrongL (tl "tie")).map (fun l => U.str (mkS l)) ++ [.str "tie 1 0 1", .str "tie 1 1 1", .str ("tie 0 " ++ PySem.Str.ofString (toString m) ++ " 1"), .str "tie 0 1 1/13"] ++ [.str "tie 0 1 1000000000001", .str ("places " ++ PySem.Str.ofString (toString m)), .str "branch 0 1 1", .str "flow 0 1 1", .str "side 1"] ++ [U.str "tie 0 1 1/110880"]) = (tiesW (nL m)).map strU := by
    unfold tiesW
    have a1 : ("tie 0 " : Str) ++ PySem.Str.ofString (toString m) ++ " 1" = mkS (tl "tie 0 " ++ nL m ++ tl " 1") := by
      show ("tie 0 " : Str) ++ sT m ++ " 1" = _
      rw [← mkS_tl (("tie 0 " : Str) ++ sT m ++ " 1"), tl_app, tl_app, sT_tl (by omega)]
    have a2 : ("places " : Str) ++ PySem.Str.ofString (toString m) = mkS (tl "places " ++ nL m) := by
      show ("places " : Str) ++ sT m = _
      rw [← mkS_tl (("places " : Str) ++ sT m), tl_app, sT_tl (by omega)]
    rw [a1, a2, List.map_append, List.map_append, List.map_append]
    rfl
  rw [eW]
  have M5d : Dk M5 d 50 := hd4.keep fun o ho => s5 _ _ ho
  generalize hMw : put M5 pw (.lst ((tiesW (nL m)).map strU)) = Mw
  have hMwp : Mw pw = some (.lst ((tiesW (nL m)).map strU)) := by rw [← hMw, put_same]
  have hdw : Dk Mw d 50 := by rw [← hMw]; exact M5d.keep fun o ho => by rw [put_ne (mne ho hpw)]; exact ho
  have kw : Keep d M Mw := by
    rw [← hMw]
    exact (((k1.trans k4).trans s5.keep).trans (Keep.new hpw))
  -- each wrong line
  have step : ∀ (lines : U) (rs' : List Row) (wr : List Nat) (f : Nat), True → True := fun _ _ _ _ _ => trivial
  refine ⟨(tiesW (nL m)).map strU, by show (match Mw pw with | some (.lst xs) => some xs | _ => none) = _; rw [hMwp], ?_⟩
  refine ⟨fun i z M' => (∃ o7 o8 o9, z = slotsW d m (.lst (rs.map rowU)) (.lst ((webL m rs).map strU)) (sT m) (.ref pw) o7 o8 o9 none none) ∧ L3.Sub Mw M', ⟨⟨_, _, _, rfl⟩, fun _ _ h => h⟩, ?_, ?_, ?_⟩
  · rintro i z M' ⟨_, s⟩
    show (match M' pw with | some (.lst xs) => some xs | _ => none) = _
    rw [s _ _ hMwp]
  · rintro i x z M6 hx ⟨⟨o7, o8, o9, rfl⟩, s6⟩
    obtain ⟨wr, hwr, rfl⟩ := List.mem_map.mp (List.mem_of_getElem? hx)
    obtain ⟨w1, w2, w3⟩ := notTie_bad (wrong_ties hm2 hm32 wr hwr)
    refine slice_dk (n := 50) (hi := 2) (hdw.keep fun o ho => s6 _ _ ho) (by decide) fun p hp M7 hd7 ⟨o7', e7'⟩ => ?_
    refine ⟨p, webL m rs, wr, 1, rfl, hok, w2, by omega, hd7, fun a b k x M8 hk1 hkl ha hb hx8 k8 => ?_⟩
    obtain ⟨f1, f2, f3⟩ := web_fact (m := m) (rs := rs) (a := a) (b := b) (by omega) (by omega) hrok hnd (by omega) w2 hx8 ha hb hk1 hkl w1 fun r hr ht => absurd ht (w3 r hr)
    refine seqF_unp rfl rfl ?_
    refine ⟨0, _, _, rfl, f1, f2, f3, fun M9 s9 => ?_⟩
    refine ifB_of (fun hb => by simp at hb) (fun _ => ?_)
    refine ⟨⟨_, _, _, rfl⟩, s6.trans (L3.Sub.trans (sub_put hp (e7' ▸ k8)) s9)⟩
  · rintro z M6 ⟨⟨o7, o8, o9, rfl⟩, s6⟩
    have hd6 : Dk M6 d 50 := hdw.keep fun o ho => s6 _ _ ho
    have k6 : Keep d M M6 := kw.trans s6.keep
    refine ⟨szs rfl, .inl ?_⟩
    refine ⟨_, rfl, .inl ?_⟩
    have ec : cutU ((webL m rs).map strU) (some 1) none = rs.map fun r => strU (lineW (wsR "tie" r)) := by
      have := cut_from (xs := (webL m rs).map strU) (t := 1) (by rw [List.length_map, hwl]; omega)
      rw [show ((1 : Nat) : Int) = 1 from rfl] at this
      rw [this]
      unfold webL
      rw [List.map_cons, List.drop_succ_cons, List.drop_zero, List.map_map]; rfl
    rw [ec]
    refine seqF_iter rfl fun side hs => ?_
    refine lc_pure keep8 (fun M' _ => hs M') (by rw [List.length_map]; omega) (fun x hx' M' _ k1 k0 h1 h0 => ?_) ?_
    · obtain ⟨r, hr, rfl⟩ := List.mem_map.mp hx'
      have e : keep8 (strU (lineW (wsR "tie" r))) = if Txt.slice (mkS (lineW (wsR "tie" r))) none (some 8) = "tie 0 1 " then none else some (strU (lineW (wsR "tie" r))) := rfl
      have hl := (lineW_ok (okLine_row w_tie (by decide) (hro r hr))).2.2
      refine ⟨by rw [len_mkS]; omega, ?_⟩
      show ifB (!decide (Txt.slice (mkS (lineW (wsR "tie" r))) none (some 8) = "tie 0 1 ")) _ _
      refine ifB_of (fun hb => ?_) (fun hb => ?_)
      · refine h1 _ ?_
        rw [e, if_neg (by simpa using hb)]
      · refine h0 ?_
        rw [e, if_pos (by simpa using hb)]
    rw [keep8_rows]
    have hrs1 : ∀ r ∈ rs.filter not01, okTie m r ∧ keyR r ≠ (0, 1) := fun r hr => by
      rw [List.mem_filter] at hr
      refine ⟨hrok r hr.1, fun z => ?_⟩
      have := line01 z
      unfold not01 at hr
      simp [this] at hr
    have hnd1 : ((rs.filter not01).map keyR).Nodup := hnd.sublist ((List.filter_sublist).map _)
    have hl1 : (rs.filter not01).length ≤ 8 := Nat.le_trans (List.length_filter_le _ _) hrl
    generalize rs.filter not01 = rt at *
    refine ⟨_, _, rfl, rfl, by rw [List.length_map]; show 1 + _ ≤ _; omega, .inl ?_⟩
    have et : ([U.str "tie 0 1 1"] ++ rt.map fun r => strU (lineW (wsR "tie" r))) = ((⟨0, 1, 1, 1⟩ : Row) :: rt).map fun r => strU (lineW (wsR "tie" r)) := by
      rw [List.map_cons]
      show [U.str "tie 0 1 1"] ++ _ = U.str (mkS (lineW (wsR "tie" ⟨0, 1, 1, 1⟩))) :: _
      rw [tie01]; rfl
    rw [et]
    have okA : ∀ r0 : Row, keyR r0 = (0, 1) → okTie m r0 → (∀ r ∈ r0 :: rt, okTie m r) ∧ ((r0 :: rt).map keyR).Nodup ∧ (r0 :: rt).length ≤ 20 := fun r0 h0 h1 => by
      refine ⟨fun r hr => ?_, ?_, by rw [List.length_cons]; omega⟩
      · rcases List.mem_cons.mp hr with rfl | hr
        · exact h1
        · exact (hrs1 r hr).1
      · rw [List.map_cons, List.nodup_cons]
        refine ⟨fun z => ?_, hnd1⟩
        obtain ⟨r, hr, e⟩ := List.mem_map.mp z
        exact (hrs1 r hr).2 (by rw [e, h0])
    obtain ⟨A1, A2, A3⟩ := okA ⟨0, 1, 1, 1⟩ rfl ⟨by decide, by decide, by show (1 : Int) < m; omega, by decide⟩
    obtain ⟨B1, B2, B3⟩ := okA ⟨0, 1, 0, 1⟩ rfl ⟨by decide, by decide, by show (1 : Int) < m; omega, by decide⟩
    have ec1 : cutU ((webL m rs).map strU) none (some 1) = [strU (lineW (wsM m))] := by
      have := cut_upto (xs := (webL m rs).map strU) (t := 1) (by rw [List.length_map, hwl]; omega)
      rw [show ((1 : Nat) : Int) = 1 from rfl] at this
      rw [this]
      rfl
    have dup : ∀ (r0 : Row) (k : Nat) (wr : List Nat) (r1 : Row), keyR r0 = (0, 1) → keyR r1 = (0, 1) → rowV (wordsL wr) "tie" = some r1 → 2 ≤ k → ∀ r, rowV (wordsL wr) "tie" = some r → okTie m r → keyR r ∈ ((r0 :: rt).take (k - 1)).map keyR := fun r0 k wr r1 h0 h1 h2 hk r hr _ => by
      rw [h2] at hr
      cases hr
      obtain ⟨j, rfl⟩ : ∃ j, k = j + 2 := ⟨k - 2, by omega⟩
      rw [show j + 2 - 1 = j + 1 by omega, List.take_succ_cons, List.map_cons, h1, h0]
      exact List.mem_cons_self ..
    -- the second one of weight nought
    refine slice_dk2 (n := 50) (lo := 2) (hi := 4) hd6 (by decide) (by decide) fun p hp M7 hd7 ⟨o7', e7'⟩ => ?_
    refine ⟨_, rfl, .inl ?_⟩
    rw [ec1]
    refine ⟨_, _, rfl, rfl, by rw [List.length_map, List.length_cons]; show 1 + _ ≤ _; omega, .inl ?_⟩
    have eA : ([strU (lineW (wsM m))] ++ ((⟨0, 1, 1, 1⟩ : Row) :: rt).map fun r => strU (lineW (wsR "tie" r))) = (webL m (⟨0, 1, 1, 1⟩ :: rt)).map strU := webU m _
    rw [eA]
    refine ⟨p, webL m (⟨0, 1, 1, 1⟩ :: rt), tl "tie  0 1 0", 2, by show _ = [U.ref p, _, U.str (mkS (tl "tie  0 1 0")), _]; rw [mkS_tl]; rfl, webL_ok (by omega) (by omega) A1 A3, (good_of good_dup0).2, by simp [webL], hd7, fun a b k x M8 hk1 hkl ha hb hx8 k8 => ?_⟩
    obtain ⟨f1, f2, f3⟩ := web_fact (m := m) (a := a) (b := b) (by omega) (by omega) A1 A2 A3 (good_of good_dup0).2 hx8 ha hb (by omega) hkl (good_of good_dup0).1 (dup _ k _ _ rfl rfl row_dup0 hk1)
    refine seqF_unp rfl rfl ?_
    refine ⟨0, _, _, rfl, f1, f2, f3, fun M9 s9 => ?_⟩
    refine ifB_of (fun hb => by simp at hb) (fun _ => ?_)
    have s69 : L3.Sub M6 M9 := L3.Sub.trans (sub_put hp (e7' ▸ k8)) s9
    have hd9 : Dk M9 d 50 := hd6.keep fun o ho => s69 _ _ ho
    -- the first one
    refine slice_dk2 (n := 50) (lo := 2) (hi := 4) hd9 (by decide) (by decide) fun p2 hp2 M10 hd10 ⟨o10', e10'⟩ => ?_
    refine ⟨_, rfl, .inl ?_⟩
    rw [ec1]
    refine ⟨szs rfl, .inl ?_⟩
    refine ⟨_, _, rfl, rfl, szs rfl, .inl ?_⟩
    refine ⟨_, rfl, .inl ?_⟩
    have ec2 : cutU (((⟨0, 1, 1, 1⟩ : Row) :: rt).map fun r => strU (lineW (wsR "tie" r))) (some 1) none = rt.map fun r => strU (lineW (wsR "tie" r)) := by
      have := cut_from (xs := ((⟨0, 1, 1, 1⟩ : Row) :: rt).map fun r => strU (lineW (wsR "tie" r))) (t := 1) (by rw [List.length_map, List.length_cons]; omega)
      rw [show ((1 : Nat) : Int) = 1 from rfl] at this
      rw [this]
      rfl
    rw [ec2]
    refine ⟨_, _, rfl, rfl, by rw [List.length_map]; show 2 + _ ≤ _; omega, .inl ?_⟩
    have eB : ([strU (lineW (wsM m))] ++ [U.str "tie 0 1 0"] ++ rt.map fun r => strU (lineW (wsR "tie" r))) = (webL m (⟨0, 1, 0, 1⟩ :: rt)).map strU := by
      rw [← webU, List.map_cons]
      show _ = _ ++ U.str (mkS (lineW (wsR "tie" ⟨0, 1, 0, 1⟩))) :: _
      rw [tie010]; rfl
    rw [eB]
    refine ⟨p2, webL m (⟨0, 1, 0, 1⟩ :: rt), tl "tie 0 1 1", 2, by show _ = [U.ref p2, _, U.str (mkS (tl "tie 0 1 1")), _]; rw [mkS_tl]; rfl, webL_ok (by omega) (by omega) B1 B3, (good_of good_dup1).2, by simp [webL], hd10, fun a b k x M11 hk1 hkl ha hb hx11 k11 => ?_⟩
    obtain ⟨f1, f2, f3⟩ := web_fact (m := m) (a := a) (b := b) (by omega) (by omega) B1 B2 B3 (good_of good_dup1).2 hx11 ha hb (by omega) hkl (good_of good_dup1).1 (dup _ k _ _ rfl rfl row_dup1 hk1)
    refine seqF_unp rfl rfl ?_
    refine ⟨0, _, _, rfl, f1, f2, f3, fun M12 s12 => ?_⟩
    refine ifB_of (fun hb => by simp at hb) (fun _ => ?_)
    have s6c : L3.Sub M6 M12 := s69.trans (L3.Sub.trans (sub_put hp2 (e10' ▸ k11)) s12)
    -- first lines
    refine ⟨szs rfl, .inl ?_⟩
    refine ⟨szs rfl, .inl ?_⟩
    refine ⟨_, _, rfl, rfl, szs rfl, .inl ?_⟩
    refine seqF_iter rfl fun side hs => ?_
    refine ⟨fun i z M' => (∃ o7 o8 o9, z = slotsW d m (.lst (rs.map rowU)) (.lst ((webL m rs).map strU)) (sT m) (.ref pw) o7 o8 o9 (some (.lst (((⟨0, 1, 1, 1⟩ : Row) :: rt).map fun r => strU (lineW (wsR "tie" r))))) (some (.lst [.str "places", .str "places 0", .str "places 41", .str "places 100", .str "places 03", .str "places 3 3", .str "place 3", .str "tie 0 1 1", .str "3"])) ∧ L3.Sub M6 M'), ⟨_, _, _, rfl, s6c⟩, fun _ _ _ _ => hs _, ?_, ?_⟩
    · rintro i x z M13 hx ⟨o7, o8, o9, rfl, s13⟩
      have hx' : x ∈ firstsL.map strU := List.mem_of_getElem? hx
      obtain ⟨one, ho, rfl⟩ := List.mem_map.mp hx'
      obtain ⟨g1, g2, g3⟩ := wrong_firsts one ho
      obtain ⟨f1, f2, f3⟩ := first_fact (m := m) (rs := rs) (by omega) (by omega) hrok (by omega) g2 g1 g3
      refine ⟨⟨_, rfl⟩, ?_⟩
      refine ⟨szs rfl, .inl ?_⟩
      refine ⟨_, _, rfl, rfl, by rw [List.length_map, hwl]; show 1 + _ ≤ _; omega, .inl ?_⟩
      have e1 : ([strU one] ++ (webL m rs).map strU) = (one :: webL m rs).map strU := rfl
      rw [e1]
      have e9 : Txt.join "\n" ((one :: webL m rs).map mkS) = mkS (joinN (one :: webL m rs)) := by rw [← tl_joinS, mkS_tl]
      have hjl : (Txt.join "\n" ((one :: webL m rs).map mkS)).length ≤ 1000000 := by
        rw [e9, len_mkS]
        simp only [List.length_append] at f1
        omega
      refine ⟨"\n", _, _, rfl, rfl, strs_of _, ?_, ?_⟩
      · have hs := sum_le (B := 1000) (ss := (one :: webL m rs).map mkS) fun s hs => by
          obtain ⟨l, hl, rfl⟩ := List.mem_map.mp hs
          rw [len_mkS]
          rcases List.mem_cons.mp hl with rfl | hl
          · exact (g2.2 _ (by simp)).2.2
          · exact (hok.2 l hl).2.2
        rw [List.length_map] at hs ⊢
        have e1 : ("\n" : Str).length = 1 := rfl
        rw [e1]
        rw [List.length_cons, hwl] at *
        omega
      refine ⟨by show 3 + _ ≤ _; omega, ?_⟩
      have e10 : ("\n \n" : Str) ++ Txt.join "\n" ((one :: webL m rs).map mkS) = mkS ([10, 32, 10] ++ joinN (one :: webL m rs)) := by
        rw [e9, ← mkS_app]
        rfl
      rw [e10]
      refine ⟨0, _, _, rfl, f1, f2, f3, fun M9 s9 => ?_⟩
      exact ⟨_, _, _, rfl, s13.trans s9⟩
    · rintro z M13 ⟨o7, o8, o9, rfl, s13⟩
      refine ⟨szs rfl, .inl ?_⟩
      refine seqF_iter rfl fun side hs => ?_
      refine ⟨fun D hD => ⟨fun i acc M' => acc = ([.int 0, .int 0, .int 1, .int 3] : List U).take i ∧ M' D = some (.lst acc) ∧ L3.Sub M13 M', ⟨rfl, put_same, Sub.put hD⟩, fun _ _ _ _ => hs _, ?_, ?_⟩⟩
      · rintro i x acc M14 hx ⟨rfl, hD14, s14⟩
        have fin : ∀ (t : List Nat) (n : Nat) (hb : badWeb t n) (hl : t.length ≤ 100) (hv : valid t) (hi : i < 4) (hn : ([.int 0, .int 0, .int 1, .int 3] : List U)[i]? = some (.int n)),
            sp__law_caught K [.int 0, .str (mkS t)] M14 (fun y M4 => M4 D = some (.lst (([.int 0, .int 0, .int 1, .int 3] : List U).take i)) ∧ (([.int 0, .int 0, .int 1, .int 3] : List U).take i).length < sizeLine ∧ (([.int 0, .int 0, .int 1, .int 3] : List U).take i ++ [y] = ([.int 0, .int 0, .int 1, .int 3] : List U).take (i + 1) ∧ (put M4 D (.lst (([.int 0, .int 0, .int 1, .int 3] : List U).take i ++ [y]))) D = some (.lst (([.int 0, .int 0, .int 1, .int 3] : List U).take i ++ [y])) ∧ L3.Sub M13 (put M4 D (.lst (([.int 0, .int 0, .int 1, .int 3] : List U).take i ++ [y]))))) (fun _ _ _ => False) :=
          fun t n hb hl hv hi hn => ⟨0, t, n, rfl, by omega, hv, .inl ⟨rfl, hb⟩, fun M15 s15 => ⟨s15 _ _ hD14, by rw [List.length_take]; show min i 4 < _; omega, by rw [List.take_add_one, hn]; rfl, put_same, (s14.trans s15).put_new hD⟩⟩
        obtain ⟨E1, E2, E3, E4⟩ := empties
        match i, hx with
        | 0, hx => cases hx; exact fin [] 0 E1 (by decide) (by intro c hc; simp at hc) (by decide) rfl
        | 1, hx => cases hx; exact fin [32] 0 E2 (by decide) (by simp [valid]) (by decide) rfl
        | 2, hx => cases hx; exact fin [10] 1 E3 (by decide) (by simp [valid]) (by decide) rfl
        | 3, hx => cases hx; exact fin [32, 32, 10, 32, 10, 10] 3 E4 (by decide) (by simp [valid]) (by decide) rfl
        | i + 4, hx => cases hx
      · rintro acc M14 ⟨e14, hD14, s14⟩
        have e14' : acc = [.int 0, .int 0, .int 1, .int 3] := e14
        refine .inl ⟨hD14, ?_⟩
        rw [e14']
        refine ⟨szs rfl, .inl ?_⟩
        refine ⟨.list [.int 0, .int 0, .int 1, .int 3], .list [.int 0, .int 0, .int 1, .int 3], rfl, rfl, ?_, ?_, ?_⟩
        · exact okL4
        · exact okL4
        refine .here ?_
        rw [eqvL4]
        exact hq _ (((kw.trans s6.keep).trans s13.keep).trans (Sub.keep (fun b o e => by
          rw [drp_ne (mne e hD)]
          exact s14 _ _ e)))
end Cw

set_option Elab.async false
set_option linter.all false
set_option maxRecDepth 100000
set_option maxHeartbeats 0
namespace Cw
open PySem PySem.Spec L2 L3
open PyProof.Rows hiding St
theorem gen_fact {ok : List (List Nat) → Prop} {ls : List (List Nat)} {a k b : Nat} {wr x : List Nat} (hls : okL ls) (hok : ∀ l ∈ ls, ok (wordsL l)) (hwr : okL [wr]) (hx : okL [x]) (ha : a ≤ 2) (hb : b ≤ 1) (hk : k ≤ ls.length) (hw : wordsL wr ≠ []) (hbad : ¬ ok (wordsL wr)) :
    (joinN (laidL a k b ls wr x)).length ≤ 1000000 ∧ valid (joinN (laidL a k b ls wr x)) ∧ firstBad ok (joinN (laidL a k b ls wr x)) (a + k + b) := by
  obtain ⟨g1, g2, g3⟩ := laid_ok (a := a) (b := b) hls hwr hx ha hb hk
  refine ⟨g2, g3, ?_⟩
  have e : (List.replicate a [] ++ ls.take k ++ List.replicate b [32, 32]).length = a + k + b := by rw [List.length_append, List.length_append, List.length_replicate, List.length_replicate, List.length_take]; omega
  rw [← e]
  refine put_bad g1 (fun l hl => ?_) hw hbad
  simp only [List.mem_append] at hl
  rcases hl with (hl | hl) | hl
  · rw [List.eq_of_mem_replicate hl]; exact .inl rfl
  · exact .inr (hok l (List.mem_of_mem_take hl))
  · rw [List.eq_of_mem_replicate hl]; exact .inl blank_words
abbrev slotsL (s : U) (d : Addr) (x2 x3 x4 x5 x6 x7 x9 x10 x13 : Option U) : SL := [some s, some (.ref d), x2, x3, x4, x5, x6, x7, none, x9, x10, none, none, x13]
def caughtT (K : Frag) (tw : TE') : TS' :=
      (sSeq (sAsg (eCall (sp__law_put K) noW (eCons (eSl (eV 1) oNo (oPart (eC (.int 2)))) (eCons (eV 6) (eCons (eV 7) (eCons (eC (.int 0)) eNil))))) (gTuple 2 (gsCons (gN 9) (gsCons (gN 10) gsNil))))
      (sIf (tB' (eBin rNe (eCall (sp__law_caught K) noW (eCons tw (eCons (eV 9) eNil))) (eV 10)))
        (sRet (eC (.bl false)))
        sNext))
theorem caught_ok {K : Frag} {D : Ends'} {s : U} {d : Addr} {x2 x3 x4 x5 x9 x10 x13 : Option U} {M : Mp} {n : Nat} {ok : List (List Nat) → Prop} {ls : List (List Nat)} {wr : List Nat} {w : Int} {tw : TE'}
    (hls : okL ls) (hok : ∀ l ∈ ls, ok (wordsL l)) (hwr : okL [wr]) (hw : wordsL wr ≠ []) (hbad : ¬ ok (wordsL wr)) (hd : Dk M d n) (hn : 2 ≤ n) (hb : ∀ t n, firstBad ok t n → badBy w t n)
    (htw : ∀ (y9 y10 : Option U) M k, k (.int w) M → tw (slotsL s d x2 x3 x4 x5 (some (.lst (ls.map strU))) (some (strU wr)) y9 y10 x13) M k)
    (hD : ∀ M' y9 y10, L3.Sub M M' → D.nx (slotsL s d x2 x3 x4 x5 (some (.lst (ls.map strU))) (some (strU wr)) y9 y10 x13) M') :
    caughtT K tw D (slotsL s d x2 x3 x4 x5 (some (.lst (ls.map strU))) (some (strU wr)) x9 x10 x13) M := by
  refine slice_dk (n := n) (hi := 2) hd hn fun p hp M7 hd7 ⟨o7', e7'⟩ => ?_
  refine ⟨p, ls, wr, 0, rfl, hls, hwr, by omega, hd7, fun a b k x M8 hk1 hkl ha hb' hx8 k8 => ?_⟩
  obtain ⟨f1, f2, f3⟩ := gen_fact (a := a) (b := b) hls hok hwr hx8 ha hb' hkl hw hbad
  refine seqF_unp rfl rfl ?_
  refine htw _ _ _ _ ?_
  refine ⟨w, _, _, rfl, f1, f2, hb _ _ f3, fun M9 s9 => ?_⟩
  refine ifB_of (fun hb => by simp at hb) (fun _ => ?_)
  exact hD _ _ _ (L3.Sub.trans (sub_put hp (e7' ▸ k8)) s9)
def rowsT (K : Frag) : TS' :=
    (sSeq (sSet 6 (eLc (iSeq (eV 2)) (gN 8) tYes' (eCall (sp__law_line K) noW (eCons (eV 5) (eCons (eV 8) eNil))) [8]))
    (sFor (iSeq (eBin rAdd (eCall (sp__law_wrong K) noW (eCons (eV 5) eNil)) (eLst (eCons (eC (.str "tie 0 1 1")) (eCons (eC (.str "side 0")) (eCons (eC (.str "places 2")) eNil)))))) (gN 7)
      (caughtT K (eV 4))))
theorem rows_ok {K : Frag} {D : Ends'} {s : U} {d : Addr} {rs : List Row} {w : Int} {word : Str} {x3 x6 x7 x9 x10 x13 : Option U} {M : Mp} {n : Nat} (hr : ∀ r ∈ rs, okRow r) (hl : rs.length ≤ 20) (hword : okWord word) (hwl : word.length ≤ 90)
    (hbw : ((wrongL (tl word) ++ moreB).all (notRow word)) = true) (hb : ∀ t n, firstBad (okRowL word) t n → badBy w t n) (hd : Dk M d n) (hn : 2 ≤ n)
    (hD : ∀ M' y6 y7 y9 y10, L3.Sub M M' → D.nx (slotsL s d (some (.lst (rs.map rowU))) x3 (some (.int w)) (some (.str word)) y6 y7 y9 y10 x13) M') :
    rowsT K D (slotsL s d (some (.lst (rs.map rowU))) x3 (some (.int w)) (some (.str word)) x6 x7 x9 x10 x13) M := by
  have hsz := size16
  have hsm : ∀ r ∈ rs, smallR r := fun r hr' => okRow_small (hr r hr')
  refine seqF_iter rfl fun side hs => ?_
  refine lc_law (w := word) (by omega) hsm (by omega) side hs (fun x => rfl) (fun _ _ _ h => h) ?_
  have eL : (rs.map fun r => U.str (lineTxt word r)) = (rs.map fun r => lineW (wsR word r)).map strU := by
    rw [List.map_map]
    refine List.map_congr_left fun r _ => ?_
    show _ = U.str (mkS (lineW (wsR word r)))
    rw [mkS_line]; rfl
  rw [eL]
  have okr : ∀ r ∈ rs, okLine (wsR word r) := fun r hr' => okLine_row hword (by omega) (hr r hr')
  have hls : okL (rs.map fun r => lineW (wsR word r)) := ⟨by rw [List.length_map]; omega, fun l hl => by
    obtain ⟨r, hr', rfl⟩ := List.mem_map.mp hl
    exact lineW_ok (okr r hr')⟩
  have hok : ∀ l ∈ rs.map fun r => lineW (wsR word r), okRowL word (wordsL l) := fun l hl => by
    obtain ⟨r, hr', rfl⟩ := List.mem_map.mp hl
    unfold okRowL
    rw [lineW_words (okr r hr'), rowV_ws (hr r hr')]; rfl
  refine ⟨tl word, by rw [mkS_tl], by rw [← len_tl]; omega, fun M5 s5 => ?_⟩
  refine ⟨szs rfl, .inl ?_⟩
  refine ⟨_, _, rfl, rfl, szs rfl, .inl ?_⟩
  have eW : ((wrongL (tl word)).map (fun l => U.str (mkS l)) ++ [U.str "tie 0 1 1", U.str "side 0", U.str "places 2"]) = (wrongL (tl word) ++ moreB).map strU := by
    rw [List.map_append]
    rfl
  rw [eW]
  refine seqF_iter rfl fun side hs => ?_
  refine ⟨fun i z M' => (∃ o7 o9 o10, z = slotsL s d (some (.lst (rs.map rowU))) x3 (some (.int w)) (some (.str word)) (some (.lst ((rs.map fun r => lineW (wsR word r)).map strU))) o7 o9 o10 x13) ∧ L3.Sub M M', ⟨⟨_, _, _, rfl⟩, s5⟩, fun _ _ _ _ => hs _, ?_, ?_⟩
  · rintro i x z M6 hx ⟨⟨o7, o9, o10, rfl⟩, s6⟩
    obtain ⟨wr, hwr, rfl⟩ := List.mem_map.mp (List.mem_of_getElem? hx)
    obtain ⟨w1, w2, w3⟩ := notRow_bad (List.all_eq_true.mp hbw wr hwr)
    exact caught_ok hls hok w2 w1 w3 (hd.keep fun o ho => s6 _ _ ho) hn hb (fun _ _ _ _ h => h) fun M' y9 y10 s' => ⟨⟨_, _, _, rfl⟩, s6.trans s'⟩
  · rintro z M6 ⟨⟨o7, o9, o10, rfl⟩, s6⟩
    exact hD _ _ _ _ _ s6
def intTxt : U → U
  | .int i => .str (sT i)
  | u => u
theorem lc_strs {z : SL} {M : Mp} {q : QK} {i : Nat} {s : List Int} {vs : List Nat} (hs : ∀ i ∈ s, small i) (hl : s.length ≤ 50) (side : Mp → Prop) (hsd : ∀ M', side M') (hg : ∀ x : U, getS (setS (wipeS z vs) i (some x)) i = some x) (hq : q (.lst (s.map fun i => .str (sT i))) M) :
    lcQ (gN i) tYes' (eB rStrI (eCons (eV i) eNil)) vs z q (s.map U.int) side M := by
  refine lc_map intTxt (fun M' _ => hsd M') (by rw [List.length_map]; have := size16; omega) (fun x hx' M' _ k hk => ?_) ?_
  · obtain ⟨n, hn, rfl⟩ := List.mem_map.mp hx'
    show (match getS (setS (wipeS z vs) i (some (U.int n))) i with
      | some v => (fun (xs : List U) (M2 : Mp) => rStrI xs M2 k) [v] M'
      | none => False)
    rw [hg]
    exact ⟨hs n hn, hk⟩
  · rw [List.map_map]
    exact hq
def sideF (u : U) : U := match u with
  | .tup xs => .str (Txt.join " " ("side" :: xs.map fun u => match u with
    | .int i => sT i
    | _ => ""))
  | u => u
theorem sideF_side (s : List Int) : sideF (sideU s) = .str (Txt.join " " (wsS s)) := by
  unfold sideF sideU
  show U.str (Txt.join " " ("side" :: (s.map U.int).map _)) = _
  rw [List.map_map]
  rfl
theorem slice_from {M : Mp} {d : Addr} {n lo : Nat} {q : QK} (h : Dk M d n) (hn : lo ≤ n) (k : ∀ p, M p = none → ∀ M', Dk M' p (n - lo) → (∃ o, M' = put M p o) → q (.ref p) M') : ∃ xs, seqL M (.ref d) = some xs ∧ newL (cutU xs (some (lo : Int)) none) M q := by
  obtain ⟨ds, e, r, l⟩ := h
  refine ⟨ds.map U.int, by show (match M d with | some (.lst xs) => some xs | _ => none) = _; rw [e], .inr fun p hp => ?_⟩
  refine k p hp _ ⟨ds.drop lo, ?_, fun x hx => r x (List.mem_of_mem_drop hx), by rw [List.length_drop]; omega⟩ ⟨_, rfl⟩
  rw [put_same, cut_from (by rw [List.length_map]; omega), List.map_drop]
theorem r_law {K us M q e} (h : sp_law K us M q e) : t_law K { nx := fun _ M' => Gz q .non M', rt := Gz q } (startU n_law.length us) M := by
  obtain ⟨ns, rfl, hns, hq⟩ := h
  have hsz := size16
  refine ⟨ns, 120, rfl, hns, by decide, fun d0 M1 nd s1 hd1 => ?_⟩
  refine slice_dk (n := 120) (hi := 60) hd1 (by decide) fun p1 hp1 M2 hd2 ⟨o2, e2⟩ => ?_
  refine ⟨p1, rfl, hd2, fun M3 k3 => ?_⟩
  have s3 : L3.Sub M1 M3 := sub_put hp1 (e2 ▸ k3)
  refine slice_from (n := 120) (lo := 60) (hd1.keep fun o ho => s3 _ _ ho) (by decide) fun d hp4 M4 hd4 _ => ?_
  refine pop_dk (d := d) (n := 59) hd4 fun y1 M5 hy0 hy1 hd5 k5 => ?_
  refine ⟨p0 rfl, ?_⟩
  obtain ⟨L, hL, hL4⟩ : ∃ L : Nat, (y1 % 5 : Int) = L ∧ L ≤ 4 := ⟨(y1 % 5).toNat, by omega, by omega⟩
  refine ⟨d, 40, L, by dsimp only; rw [hL], by omega, hd5.mono (by omega), fun rows M6 hrl hrok k6 hd6 => ?_⟩
  refine pop_dk (d := d) (n := 39) hd6 fun y2 M7 hz0 hz1 hd7 k7 => ?_
  refine ⟨p0 rfl, ?_⟩
  obtain ⟨N, hN, hN4⟩ : ∃ N : Nat, (y2 % 5 : Int) = N ∧ N ≤ 4 := ⟨(y2 % 5).toNat, by omega, by omega⟩
  refine ⟨d, 10, N, by dsimp only; rw [hN], by omega, hd7.mono (by omega), fun ss M8 hsl hsok k8 hd8 => ?_⟩
  -- trees, flows
  refine ⟨szs rfl, .inl ?_⟩
  refine ⟨szs rfl, .inl ?_⟩
  refine ⟨szs rfl, .inl ?_⟩
  refine seqF_iter rfl fun side hs => ?_
  refine ⟨fun i z M' => (∃ o4 o5 o6 o7 o9 o10, z = slotsL (scriptU ns) d (some (.lst (rows.map rowU))) (some (.lst (ss.map sideU))) o4 o5 o6 o7 o9 o10 none) ∧ L3.Sub M8 M', ⟨⟨_, _, _, _, _, _, rfl⟩, fun _ _ h => h⟩, fun _ _ _ _ => hs _, ?_, ?_⟩
  · rintro i x z M9 hx ⟨⟨o4, o5, o6, o7, o9, o10, rfl⟩, s9⟩
    match i, hx with
    | 0, hx =>
      cases hx
      refine seqF_unp rfl rfl ?_
      exact rows_ok (w := 1) (word := "branch") hrok (by omega) w_branch (by decide) wrong_branch (fun t n h => .inr (.inl ⟨rfl, h⟩)) (hd8.keep fun o ho => s9 _ _ ho) (by decide) fun M' _ _ _ _ s' => ⟨⟨_, _, _, _, _, _, rfl⟩, s9.trans s'⟩
    | 1, hx =>
      cases hx
      refine seqF_unp rfl rfl ?_
      exact rows_ok (w := 2) (word := "flow") hrok (by omega) w_flow (by decide) wrong_flow (fun t n h => .inr (.inr (.inl ⟨rfl, h⟩))) (hd8.keep fun o ho => s9 _ _ ho) (by decide) fun M' _ _ _ _ s' => ⟨⟨_, _, _, _, _, _, rfl⟩, s9.trans s'⟩
    | i + 2, hx => cases hx
  · rintro z M9 ⟨⟨o4, o5, o6, o7, o9, o10, rfl⟩, s9⟩
    -- sides
    have e100 : (100 : Nat) < 2 ^ 200 := by decide
    have sd : ∀ s ∈ ss, s.length ≤ 50 ∧ ∀ i ∈ s, small i := fun s hs =>
      ⟨by have := (hsok s hs).2.1; omega, fun i hi => small_of (by have := (hsok s hs).2.2 i hi; omega)⟩
    refine seqF_iter rfl fun side hs => ?_
    refine lc_map sideF (fun M' _ => hs M') (by rw [List.length_map]; omega) (fun x hx' M' _ k hk => ?_) ?_
    · obtain ⟨s, hs', rfl⟩ := List.mem_map.mp hx'
      obtain ⟨s50, ssm⟩ := sd s hs'
      rw [sideF_side] at hk
      refine ⟨⟨_, rfl⟩, ?_⟩
      refine ⟨szs rfl, .inl ?_⟩
      refine seqF_iter rfl fun side2 hs2 => ?_
      refine lc_strs ssm s50 side2 hs2 (fun x => rfl) ?_
      refine ⟨_, _, rfl, rfl, by rw [List.length_map]; show 1 + s.length ≤ sizeLine; omega, .inl ?_⟩
      have e2 : ([U.str "side"] ++ s.map fun i => U.str (sT i)) = (("side" :: s.map sT) : List Str).map U.str := by rw [List.map_cons, List.map_map]; rfl
      rw [e2]
      have hsum := sum_le (B := 2) (ss := s.map sT) fun t ht => by
        obtain ⟨i, hi, rfl⟩ := List.mem_map.mp ht
        rw [len_tl, sT_tl ((hsok s hs').2.2 i hi).1]
        exact nL_len2 ((hsok s hs').2.2 i hi).1 ((hsok s hs').2.2 i hi).2
      rw [List.length_map] at hsum
      refine ⟨" ", _, _, rfl, rfl, strsU_map _, ?_, hk⟩
      rw [List.map_cons, List.sum_cons, List.length_cons, List.length_map, show ((" " : Str)).length = 1 from rfl, show (("side" : Str)).length = 4 from rfl]
      omega
    have e3 : (ss.map sideU).map sideF = (ss.map fun s => lineW (wsS s)).map strU := by
      rw [List.map_map, List.map_map]
      refine List.map_congr_left fun s hs' => ?_
      show sideF (sideU s) = U.str (mkS (lineW (wsS s)))
      rw [sideF_side, mkS_line]
    rw [e3]
    have okS : ∀ s ∈ ss, okLine (wsS s) := fun s hs' => okLine_side (hsok s hs')
    have hls : okL (ss.map fun s => lineW (wsS s)) := ⟨by rw [List.length_map]; omega, fun l hl => by
      obtain ⟨s, hs', rfl⟩ := List.mem_map.mp hl
      exact lineW_ok (okS s hs')⟩
    have hok : ∀ l ∈ ss.map fun s => lineW (wsS s), okSideL (wordsL l) := fun l hl => by
      obtain ⟨s, hs', rfl⟩ := List.mem_map.mp hl
      rw [lineW_words (okS s hs')]
      exact ⟨s, isSide_ws (hsok s hs')⟩
    refine ⟨szs rfl, .inl ?_⟩
    refine ⟨szs rfl, .inl ?_⟩
    refine ⟨_, _, rfl, rfl, szs rfl, .inl ?_⟩
    refine seqF_iter rfl fun side hs => ?_
    refine ⟨fun i z M' => (∃ o7 o9 o10, z = slotsL (scriptU ns) d (some (.lst (rows.map rowU))) (some (.lst (ss.map sideU))) o4 o5 (some (.lst ((ss.map fun s => lineW (wsS s)).map strU))) o7 o9 o10 (some (.lst [.str "side", .str "sides 1", .str "side 100", .str "side 01", .str "side 1 00", .str "side a", .str "side 1 1/2", .str "1", .str "side1", .str "tie 0 1 1"]))) ∧ L3.Sub M8 M', ⟨⟨_, _, _, rfl⟩, s9⟩, fun _ _ _ _ => hs _, ?_, ?_⟩
    · rintro i x z M10 hx ⟨⟨o7, o9, o10, rfl⟩, s10⟩
      have hx' : x ∈ sidesW.map strU := List.mem_of_getElem? hx
      obtain ⟨wr, hwr, rfl⟩ := List.mem_map.mp hx'
      obtain ⟨w1, w2, w3⟩ := wrong_sides wr hwr
      exact caught_ok (ok := okSideL) (w := 3) (tw := eC (.int 3)) hls hok w2 w1 w3 (hd8.keep fun o ho => s10 _ _ ho) (by decide) (fun t n h => .inr (.inr (.inr ⟨rfl, h⟩))) (fun _ _ _ _ h => h) fun M' y9 y10 s' => ⟨⟨_, _, _, rfl⟩, s10.trans s'⟩
    · rintro z M10 ⟨⟨o7, o9, o10, rfl⟩, s10⟩
      exact .here (hq M10)
end Cw

set_option Elab.async false
set_option linter.all false
set_option maxRecDepth 100000
set_option maxHeartbeats 0
namespace Cw
open PySem PySem.Spec L2 L3
open PyProof.Rows hiding St
open He (Dv)

theorem ok__law_deck {P : Program} {w : World} {K : Frag} {mg : Str → Option Value} {base : Heap} (T : Tx K mg) : Def' P w K mg base 1 (He.ga K "_law_deck") ["_law_script", "_law_many"] (sp__law_deck K) := by
  obtain ⟨fd, F0⟩ := T.says.def_ 25 (d := d__law_deck) rfl
  have F : FunD K "_law_deck" "_law_deck" (defArgs s__law_deck) (defBody s__law_deck) (defScope s__law_deck) [] [] (He.ga K "_law_deck") fd := F0
  have b : Binds K fd ["_law_script", "_law_many"] [] := F.bindsN fun _ _ _ _ _ _ us hl => match us, hl with | [_, _], _ => rfl
  exact ⟨⟨fd, b, fn_tree (fun_of F) sc__law_deck (fun us M q e h => by first | (obtain ⟨_, rfl, _⟩ := h; rfl) | (obtain ⟨_, _, rfl, _⟩ := h; rfl) | (obtain ⟨_, _, _, rfl, _⟩ := h; rfl) | (obtain ⟨_, _, _, _, rfl, _⟩ := h; rfl) | (obtain ⟨_, _, _, _, _, rfl, _⟩ := h; rfl) | (obtain ⟨_, _, _, _, _, _, rfl, _⟩ := h; rfl) | (obtain ⟨_, _, _, ⟨rfl, _⟩, _⟩ := h; rfl) | exact h.elim) fun cdv A outer s H E us M q e hr hg tk h => ⟨_, j__law_deck T cdv A outer s H E hr hg, r__law_deck h⟩⟩, F.kp⟩
theorem ok__law_ties {P : Program} {w : World} {K : Frag} {mg : Str → Option Value} {base : Heap} (T : Tx K mg) : Def' P w K mg base 1 (He.ga K "_law_ties") ["_law_deck_here", "_law_many"] (sp__law_ties K) := by
  obtain ⟨fd, F0⟩ := T.says.def_ 31 (d := d__law_ties) rfl
  have F : FunD K "_law_ties" "_law_ties" (defArgs s__law_ties) (defBody s__law_ties) (defScope s__law_ties) [] [] (He.ga K "_law_ties") fd := F0
  have b : Binds K fd ["_law_deck_here", "_law_many"] [] := F.bindsN fun _ _ _ _ _ _ us hl => match us, hl with | [_, _], _ => rfl
  exact ⟨⟨fd, b, fn_tree (fun_of F) sc__law_ties (fun us M q e h => by first | (obtain ⟨_, rfl, _⟩ := h; rfl) | (obtain ⟨_, _, rfl, _⟩ := h; rfl) | (obtain ⟨_, _, _, rfl, _⟩ := h; rfl) | (obtain ⟨_, _, _, _, rfl, _⟩ := h; rfl) | (obtain ⟨_, _, _, _, _, rfl, _⟩ := h; rfl) | (obtain ⟨_, _, _, _, _, _, rfl, _⟩ := h; rfl) | (obtain ⟨_, _, _, ⟨rfl, _⟩, _⟩ := h; rfl) | exact h.elim) fun cdv A outer s H E us M q e hr hg tk h => ⟨_, j__law_ties T cdv A outer s H E hr hg, r__law_ties h⟩⟩, F.kp⟩
theorem ok__law_number {P : Program} {w : World} {K : Frag} {mg : Str → Option Value} {base : Heap} (T : Tx K mg) : Def' P w K mg base 1 (He.ga K "_law_number") ["_law_amount"] (sp__law_number K) := by
  obtain ⟨fd, F0⟩ := T.says.def_ 27 (d := d__law_number) rfl
  have F : FunD K "_law_number" "_law_number" (defArgs s__law_number) (defBody s__law_number) (defScope s__law_number) [] [] (He.ga K "_law_number") fd := F0
  have b : Binds K fd ["_law_amount"] [] := F.bindsN fun _ _ _ _ _ _ us hl => match us, hl with | [_], _ => rfl
  exact ⟨⟨fd, b, fn_tree (fun_of F) sc__law_number (fun us M q e h => by first | (obtain ⟨_, rfl, _⟩ := h; rfl) | (obtain ⟨_, _, rfl, _⟩ := h; rfl) | (obtain ⟨_, _, _, rfl, _⟩ := h; rfl) | (obtain ⟨_, _, _, _, rfl, _⟩ := h; rfl) | (obtain ⟨_, _, _, _, _, rfl, _⟩ := h; rfl) | (obtain ⟨_, _, _, _, _, _, rfl, _⟩ := h; rfl) | (obtain ⟨_, _, _, ⟨rfl, _⟩, _⟩ := h; rfl) | exact h.elim) fun cdv A outer s H E us M q e hr hg tk h => ⟨_, j__law_number T cdv A outer s H E hr hg, r__law_number h⟩⟩, F.kp⟩
theorem ok__law_line {P : Program} {w : World} {K : Frag} {mg : Str → Option Value} {base : Heap} (T : Tx K mg) : Def' P w K mg base 2 (He.ga K "_law_line") ["_law_word", "_law_row"] (sp__law_line K) := by
  obtain ⟨fd, F0⟩ := T.says.def_ 32 (d := d__law_line) rfl
  have F : FunD K "_law_line" "_law_line" (defArgs s__law_line) (defBody s__law_line) (defScope s__law_line) [] [] (He.ga K "_law_line") fd := F0
  have b : Binds K fd ["_law_word", "_law_row"] [] := F.bindsN fun _ _ _ _ _ _ us hl => match us, hl with | [_, _], _ => rfl
  exact ⟨⟨fd, b, fn_tree (fun_of F) sc__law_line (fun us M q e h => by first | (obtain ⟨_, rfl, _⟩ := h; rfl) | (obtain ⟨_, _, rfl, _⟩ := h; rfl) | (obtain ⟨_, _, _, rfl, _⟩ := h; rfl) | (obtain ⟨_, _, _, _, rfl, _⟩ := h; rfl) | (obtain ⟨_, _, _, _, _, rfl, _⟩ := h; rfl) | (obtain ⟨_, _, _, _, _, _, rfl, _⟩ := h; rfl) | (obtain ⟨_, _, _, ⟨rfl, _⟩, _⟩ := h; rfl) | exact h.elim) fun cdv A outer s H E us M q e hr hg tk h => ⟨_, j__law_line T (ok__law_number T) cdv A outer s H E hr hg, r__law_line h⟩⟩, F.kp⟩
theorem ok__law_wrong {P : Program} {w : World} {K : Frag} {mg : Str → Option Value} {base : Heap} (T : Tx K mg) : Def' P w K mg base 1 (He.ga K "_law_wrong") ["_law_word"] (sp__law_wrong K) := by
  obtain ⟨fd, F0⟩ := T.says.def_ 34 (d := d__law_wrong) rfl
  have F : FunD K "_law_wrong" "_law_wrong" (defArgs s__law_wrong) (defBody s__law_wrong) (defScope s__law_wrong) [] [] (He.ga K "_law_wrong") fd := F0
  have b : Binds K fd ["_law_word"] [] := F.bindsN fun _ _ _ _ _ _ us hl => match us, hl with | [_], _ => rfl
  exact ⟨⟨fd, b, fn_tree (fun_of F) sc__law_wrong (fun us M q e h => by first | (obtain ⟨_, rfl, _⟩ := h; rfl) | (obtain ⟨_, _, rfl, _⟩ := h; rfl) | (obtain ⟨_, _, _, rfl, _⟩ := h; rfl) | (obtain ⟨_, _, _, _, rfl, _⟩ := h; rfl) | (obtain ⟨_, _, _, _, _, rfl, _⟩ := h; rfl) | (obtain ⟨_, _, _, _, _, _, rfl, _⟩ := h; rfl) | (obtain ⟨_, _, _, ⟨rfl, _⟩, _⟩ := h; rfl) | exact h.elim) fun cdv A outer s H E us M q e hr hg tk h => ⟨_, j__law_wrong T cdv A outer s H E hr hg, r__law_wrong h⟩⟩, F.kp⟩
theorem ok__law_put {P : Program} {w : World} {K : Frag} {mg : Str → Option Value} {base : Heap} (T : Tx K mg) : Def' P w K mg base 1 (He.ga K "_law_put") ["_law_deck_here", "_law_lines", "_law_wrong_here", "_law_first"] (sp__law_put K) := by
  obtain ⟨fd, F0⟩ := T.says.def_ 35 (d := d__law_put) rfl
  have F : FunD K "_law_put" "_law_put" (defArgs s__law_put) (defBody s__law_put) (defScope s__law_put) [] [] (He.ga K "_law_put") fd := F0
  have b : Binds K fd ["_law_deck_here", "_law_lines", "_law_wrong_here", "_law_first"] [] := F.bindsN fun _ _ _ _ _ _ us hl => match us, hl with | [_, _, _, _], _ => rfl
  exact ⟨⟨fd, b, fn_tree (fun_of F) sc__law_put (fun us M q e h => by first | (obtain ⟨_, rfl, _⟩ := h; rfl) | (obtain ⟨_, _, rfl, _⟩ := h; rfl) | (obtain ⟨_, _, _, rfl, _⟩ := h; rfl) | (obtain ⟨_, _, _, _, rfl, _⟩ := h; rfl) | (obtain ⟨_, _, _, _, _, rfl, _⟩ := h; rfl) | (obtain ⟨_, _, _, _, _, _, rfl, _⟩ := h; rfl) | (obtain ⟨_, _, _, ⟨rfl, _⟩, _⟩ := h; rfl) | exact h.elim) fun cdv A outer s H E us M q e hr hg tk h => ⟨_, j__law_put T cdv A outer s H E hr hg, r__law_put h⟩⟩, F.kp⟩
theorem ok_lines_in {P : Program} {w : World} {K : Frag} {mg : Str → Option Value} {base : Heap} (T : Tx K mg) : Def' P w K mg base 1 (He.ga K "lines_in") ["text"] (sp_lines_in K) := by
  obtain ⟨fd, F0⟩ := T.says.def_ 17 (d := d_lines_in) rfl
  have F : FunD K "lines_in" "lines_in" (defArgs s_lines_in) (defBody s_lines_in) (defScope s_lines_in) [] [] (He.ga K "lines_in") fd := F0
  have b : Binds K fd ["text"] [] := F.bindsN fun _ _ _ _ _ _ us hl => match us, hl with | [_], _ => rfl
  exact ⟨⟨fd, b, fn_tree (fun_of F) sc_lines_in (fun us M q e h => by first | (obtain ⟨_, rfl, _⟩ := h; rfl) | (obtain ⟨_, _, rfl, _⟩ := h; rfl) | (obtain ⟨_, _, _, rfl, _⟩ := h; rfl) | (obtain ⟨_, _, _, _, rfl, _⟩ := h; rfl) | (obtain ⟨_, _, _, _, _, rfl, _⟩ := h; rfl) | (obtain ⟨_, _, _, _, _, _, rfl, _⟩ := h; rfl) | (obtain ⟨_, _, _, ⟨rfl, _⟩, _⟩ := h; rfl) | exact h.elim) fun cdv A outer s H E us M q e hr hg tk h => ⟨_, j_lines_in T cdv A outer s H E hr hg, r_lines_in h⟩⟩, F.kp⟩
theorem ok_number_in {P : Program} {w : World} {K : Frag} {mg : Str → Option Value} {base : Heap} (T : Tx K mg) : Def' P w K mg base 1 (He.ga K "number_in") ["word", "most"] (sp_number_in K) := by
  obtain ⟨fd, F0⟩ := T.says.def_ 15 (d := d_number_in) rfl
  have F : FunD K "number_in" "number_in" (defArgs s_number_in) (defBody s_number_in) (defScope s_number_in) [] [] (He.ga K "number_in") fd := F0
  have b : Binds K fd ["word", "most"] [] := F.bindsN fun _ _ _ _ _ _ us hl => match us, hl with | [_, _], _ => rfl
  exact ⟨⟨fd, b, fn_tree (fun_of F) sc_number_in (fun us M q e h => by first | (obtain ⟨_, rfl, _⟩ := h; rfl) | (obtain ⟨_, _, rfl, _⟩ := h; rfl) | (obtain ⟨_, _, _, rfl, _⟩ := h; rfl) | (obtain ⟨_, _, _, _, rfl, _⟩ := h; rfl) | (obtain ⟨_, _, _, _, _, rfl, _⟩ := h; rfl) | (obtain ⟨_, _, _, _, _, _, rfl, _⟩ := h; rfl) | (obtain ⟨_, _, _, ⟨rfl, _⟩, _⟩ := h; rfl) | exact h.elim) fun cdv A outer s H E us M q e hr hg tk h => ⟨_, j_number_in T cdv A outer s H E hr hg, r_number_in h⟩⟩, F.kp⟩
theorem ok_many_in {P : Program} {w : World} {K : Frag} {mg : Str → Option Value} {base : Heap} (T : Tx K mg) : Def' P w K mg base 2 (He.ga K "many_in") ["words"] (sp_many_in K) := by
  obtain ⟨fd, F0⟩ := T.says.def_ 19 (d := d_many_in) rfl
  have F : FunD K "many_in" "many_in" (defArgs s_many_in) (defBody s_many_in) (defScope s_many_in) [] [] (He.ga K "many_in") fd := F0
  have b : Binds K fd ["words"] [] := F.bindsN fun _ _ _ _ _ _ us hl => match us, hl with | [_], _ => rfl
  exact ⟨⟨fd, b, fn_tree (fun_of F) sc_many_in (fun us M q e h => by first | (obtain ⟨_, rfl, _⟩ := h; rfl) | (obtain ⟨_, _, rfl, _⟩ := h; rfl) | (obtain ⟨_, _, _, rfl, _⟩ := h; rfl) | (obtain ⟨_, _, _, _, rfl, _⟩ := h; rfl) | (obtain ⟨_, _, _, _, _, rfl, _⟩ := h; rfl) | (obtain ⟨_, _, _, _, _, _, rfl, _⟩ := h; rfl) | (obtain ⟨_, _, _, ⟨rfl, _⟩, _⟩ := h; rfl) | exact h.elim) fun cdv A outer s H E us M q e hr hg tk h => ⟨_, j_many_in T (ok_number_in T) cdv A outer s H E hr hg, r_many_in h⟩⟩, F.kp⟩
theorem ok_divisor {P : Program} {w : World} {K : Frag} {mg : Str → Option Value} {base : Heap} (T : Tx K mg) : Def' P w K mg base 1 (He.ga K "divisor") ["one", "other"] (sp_divisor K) := by
  obtain ⟨fd, F0⟩ := T.says.def_ 5 (d := d_divisor) rfl
  have F : FunD K "divisor" "divisor" (defArgs s_divisor) (defBody s_divisor) (defScope s_divisor) [] [] (He.ga K "divisor") fd := F0
  have b : Binds K fd ["one", "other"] [] := F.bindsN fun _ _ _ _ _ _ us hl => match us, hl with | [_, _], _ => rfl
  exact ⟨⟨fd, b, fn_tree (fun_of F) sc_divisor (fun us M q e h => by first | (obtain ⟨_, rfl, _⟩ := h; rfl) | (obtain ⟨_, _, rfl, _⟩ := h; rfl) | (obtain ⟨_, _, _, rfl, _⟩ := h; rfl) | (obtain ⟨_, _, _, _, rfl, _⟩ := h; rfl) | (obtain ⟨_, _, _, _, _, rfl, _⟩ := h; rfl) | (obtain ⟨_, _, _, _, _, _, rfl, _⟩ := h; rfl) | (obtain ⟨_, _, _, ⟨rfl, _⟩, _⟩ := h; rfl) | exact h.elim) fun cdv A outer s H E us M q e hr hg tk h => ⟨_, j_divisor T cdv A outer s H E hr hg, r_divisor h⟩⟩, F.kp⟩
theorem ok_amount_in {P : Program} {w : World} {K : Frag} {mg : Str → Option Value} {base : Heap} (T : Tx K mg) : Def' P w K mg base 2 (He.ga K "amount_in") ["word"] (sp_amount_in K) := by
  obtain ⟨fd, F0⟩ := T.says.def_ 16 (d := d_amount_in) rfl
  have F : FunD K "amount_in" "amount_in" (defArgs s_amount_in) (defBody s_amount_in) (defScope s_amount_in) [] [] (He.ga K "amount_in") fd := F0
  have b : Binds K fd ["word"] [] := F.bindsN fun _ _ _ _ _ _ us hl => match us, hl with | [_], _ => rfl
  exact ⟨⟨fd, b, fn_tree (fun_of F) sc_amount_in (fun us M q e h => by first | (obtain ⟨_, rfl, _⟩ := h; rfl) | (obtain ⟨_, _, rfl, _⟩ := h; rfl) | (obtain ⟨_, _, _, rfl, _⟩ := h; rfl) | (obtain ⟨_, _, _, _, rfl, _⟩ := h; rfl) | (obtain ⟨_, _, _, _, _, rfl, _⟩ := h; rfl) | (obtain ⟨_, _, _, _, _, _, rfl, _⟩ := h; rfl) | (obtain ⟨_, _, _, ⟨rfl, _⟩, _⟩ := h; rfl) | exact h.elim) fun cdv A outer s H E us M q e hr hg tk h => ⟨_, j_amount_in T (ok_number_in T) (ok_divisor T) cdv A outer s H E hr hg, r_amount_in h⟩⟩, F.kp⟩
theorem ok_row_in {P : Program} {w : World} {K : Frag} {mg : Str → Option Value} {base : Heap} (T : Tx K mg) : Def' P w K mg base 3 (He.ga K "row_in") ["words", "word"] (sp_row_in K) := by
  obtain ⟨fd, F0⟩ := T.says.def_ 18 (d := d_row_in) rfl
  have F : FunD K "row_in" "row_in" (defArgs s_row_in) (defBody s_row_in) (defScope s_row_in) [] [] (He.ga K "row_in") fd := F0
  have b : Binds K fd ["words", "word"] [] := F.bindsN fun _ _ _ _ _ _ us hl => match us, hl with | [_, _], _ => rfl
  exact ⟨⟨fd, b, fn_tree (fun_of F) sc_row_in (fun us M q e h => by first | (obtain ⟨_, rfl, _⟩ := h; rfl) | (obtain ⟨_, _, rfl, _⟩ := h; rfl) | (obtain ⟨_, _, _, rfl, _⟩ := h; rfl) | (obtain ⟨_, _, _, _, rfl, _⟩ := h; rfl) | (obtain ⟨_, _, _, _, _, rfl, _⟩ := h; rfl) | (obtain ⟨_, _, _, _, _, _, rfl, _⟩ := h; rfl) | (obtain ⟨_, _, _, ⟨rfl, _⟩, _⟩ := h; rfl) | exact h.elim) fun cdv A outer s H E us M q e hr hg tk h => ⟨_, j_row_in T (ok_number_in T) (ok_amount_in T) cdv A outer s H E hr hg, r_row_in h⟩⟩, F.kp⟩
theorem ok_is_row {P : Program} {w : World} {K : Frag} {mg : Str → Option Value} {base : Heap} (T : Tx K mg) : Def' P w K mg base 1 (He.ga K "is_row") ["thing"] (sp_is_row K) := by
  obtain ⟨fd, F0⟩ := T.says.def_ 3 (d := d_is_row) rfl
  have F : FunD K "is_row" "is_row" (defArgs s_is_row) (defBody s_is_row) (defScope s_is_row) [] [] (He.ga K "is_row") fd := F0
  have b : Binds K fd ["thing"] [] := F.bindsN fun _ _ _ _ _ _ us hl => match us, hl with | [_], _ => rfl
  exact ⟨⟨fd, b, fn_tree (fun_of F) sc_is_row (fun us M q e h => by first | (obtain ⟨_, rfl, _⟩ := h; rfl) | (obtain ⟨_, _, rfl, _⟩ := h; rfl) | (obtain ⟨_, _, _, rfl, _⟩ := h; rfl) | (obtain ⟨_, _, _, _, rfl, _⟩ := h; rfl) | (obtain ⟨_, _, _, _, _, rfl, _⟩ := h; rfl) | (obtain ⟨_, _, _, _, _, _, rfl, _⟩ := h; rfl) | (obtain ⟨_, _, _, ⟨rfl, _⟩, _⟩ := h; rfl) | exact h.elim) fun cdv A outer s H E us M q e hr hg tk h => ⟨_, j_is_row T cdv A outer s H E hr hg, r_is_row h⟩⟩, F.kp⟩
theorem ok_is_whole {P : Program} {w : World} {K : Frag} {mg : Str → Option Value} {base : Heap} (T : Tx K mg) : Def' P w K mg base 1 (He.ga K "is_whole") ["thing", "least", "most"] (sp_is_whole K) := by
  obtain ⟨fd, F0⟩ := T.says.def_ 2 (d := d_is_whole) rfl
  have F : FunD K "is_whole" "is_whole" (defArgs s_is_whole) (defBody s_is_whole) (defScope s_is_whole) [] [] (He.ga K "is_whole") fd := F0
  have b : Binds K fd ["thing", "least", "most"] [] := F.bindsN fun _ _ _ _ _ _ us hl => match us, hl with | [_, _, _], _ => rfl
  exact ⟨⟨fd, b, fn_tree (fun_of F) sc_is_whole (fun us M q e h => by first | (obtain ⟨_, rfl, _⟩ := h; rfl) | (obtain ⟨_, _, rfl, _⟩ := h; rfl) | (obtain ⟨_, _, _, rfl, _⟩ := h; rfl) | (obtain ⟨_, _, _, _, rfl, _⟩ := h; rfl) | (obtain ⟨_, _, _, _, _, rfl, _⟩ := h; rfl) | (obtain ⟨_, _, _, _, _, _, rfl, _⟩ := h; rfl) | (obtain ⟨_, _, _, ⟨rfl, _⟩, _⟩ := h; rfl) | exact h.elim) fun cdv A outer s H E us M q e hr hg tk h => ⟨_, j_is_whole T cdv A outer s H E hr hg, r_is_whole h⟩⟩, F.kp⟩
theorem ok_are_places {P : Program} {w : World} {K : Frag} {mg : Str → Option Value} {base : Heap} (T : Tx K mg) : Def' P w K mg base 2 (He.ga K "are_places") ["many", "i", "j"] (sp_are_places K) := by
  obtain ⟨fd, F0⟩ := T.says.def_ 10 (d := d_are_places) rfl
  have F : FunD K "are_places" "are_places" (defArgs s_are_places) (defBody s_are_places) (defScope s_are_places) [] [] (He.ga K "are_places") fd := F0
  have b : Binds K fd ["many", "i", "j"] [] := F.bindsN fun _ _ _ _ _ _ us hl => match us, hl with | [_, _, _], _ => rfl
  exact ⟨⟨fd, b, fn_tree (fun_of F) sc_are_places (fun us M q e h => by first | (obtain ⟨_, rfl, _⟩ := h; rfl) | (obtain ⟨_, _, rfl, _⟩ := h; rfl) | (obtain ⟨_, _, _, rfl, _⟩ := h; rfl) | (obtain ⟨_, _, _, _, rfl, _⟩ := h; rfl) | (obtain ⟨_, _, _, _, _, rfl, _⟩ := h; rfl) | (obtain ⟨_, _, _, _, _, _, rfl, _⟩ := h; rfl) | (obtain ⟨_, _, _, ⟨rfl, _⟩, _⟩ := h; rfl) | exact h.elim) fun cdv A outer s H E us M q e hr hg tk h => ⟨_, j_are_places T (ok_is_whole T) cdv A outer s H E hr hg, r_are_places h⟩⟩, F.kp⟩
theorem ok_is_amount {P : Program} {w : World} {K : Frag} {mg : Str → Option Value} {base : Heap} (T : Tx K mg) : Def' P w K mg base 2 (He.ga K "is_amount") ["thing"] (sp_is_amount K) := by
  obtain ⟨fd, F0⟩ := T.says.def_ 6 (d := d_is_amount) rfl
  have F : FunD K "is_amount" "is_amount" (defArgs s_is_amount) (defBody s_is_amount) (defScope s_is_amount) [] [] (He.ga K "is_amount") fd := F0
  have b : Binds K fd ["thing"] [] := F.bindsN fun _ _ _ _ _ _ us hl => match us, hl with | [_], _ => rfl
  exact ⟨⟨fd, b, fn_tree (fun_of F) sc_is_amount (fun us M q e h => by first | (obtain ⟨_, rfl, _⟩ := h; rfl) | (obtain ⟨_, _, rfl, _⟩ := h; rfl) | (obtain ⟨_, _, _, rfl, _⟩ := h; rfl) | (obtain ⟨_, _, _, _, rfl, _⟩ := h; rfl) | (obtain ⟨_, _, _, _, _, rfl, _⟩ := h; rfl) | (obtain ⟨_, _, _, _, _, _, rfl, _⟩ := h; rfl) | (obtain ⟨_, _, _, ⟨rfl, _⟩, _⟩ := h; rfl) | exact h.elim) fun cdv A outer s H E us M q e hr hg tk h => ⟨_, j_is_amount T (ok_is_row T) (ok_divisor T) cdv A outer s H E hr hg, r_is_amount h⟩⟩, F.kp⟩
theorem ok_is_weight {P : Program} {w : World} {K : Frag} {mg : Str → Option Value} {base : Heap} (T : Tx K mg) : Def' P w K mg base 3 (He.ga K "is_weight") ["thing"] (sp_is_weight K) := by
  obtain ⟨fd, F0⟩ := T.says.def_ 7 (d := d_is_weight) rfl
  have F : FunD K "is_weight" "is_weight" (defArgs s_is_weight) (defBody s_is_weight) (defScope s_is_weight) [] [] (He.ga K "is_weight") fd := F0
  have b : Binds K fd ["thing"] [] := F.bindsN fun _ _ _ _ _ _ us hl => match us, hl with | [_], _ => rfl
  exact ⟨⟨fd, b, fn_tree (fun_of F) sc_is_weight (fun us M q e h => by first | (obtain ⟨_, rfl, _⟩ := h; rfl) | (obtain ⟨_, _, rfl, _⟩ := h; rfl) | (obtain ⟨_, _, _, rfl, _⟩ := h; rfl) | (obtain ⟨_, _, _, _, rfl, _⟩ := h; rfl) | (obtain ⟨_, _, _, _, _, rfl, _⟩ := h; rfl) | (obtain ⟨_, _, _, _, _, _, rfl, _⟩ := h; rfl) | (obtain ⟨_, _, _, ⟨rfl, _⟩, _⟩ := h; rfl) | exact h.elim) fun cdv A outer s H E us M q e hr hg tk h => ⟨_, j_is_weight T (ok_is_amount T) cdv A outer s H E hr hg, r_is_weight h⟩⟩, F.kp⟩
theorem ok_is_tie {P : Program} {w : World} {K : Frag} {mg : Str → Option Value} {base : Heap} (T : Tx K mg) : Def' P w K mg base 4 (He.ga K "is_tie") ["many", "thing"] (sp_is_tie K) := by
  obtain ⟨fd, F0⟩ := T.says.def_ 11 (d := d_is_tie) rfl
  have F : FunD K "is_tie" "is_tie" (defArgs s_is_tie) (defBody s_is_tie) (defScope s_is_tie) [] [] (He.ga K "is_tie") fd := F0
  have b : Binds K fd ["many", "thing"] [] := F.bindsN fun _ _ _ _ _ _ us hl => match us, hl with | [_, _], _ => rfl
  exact ⟨⟨fd, b, fn_tree (fun_of F) sc_is_tie (fun us M q e h => by first | (obtain ⟨_, rfl, _⟩ := h; rfl) | (obtain ⟨_, _, rfl, _⟩ := h; rfl) | (obtain ⟨_, _, _, rfl, _⟩ := h; rfl) | (obtain ⟨_, _, _, _, rfl, _⟩ := h; rfl) | (obtain ⟨_, _, _, _, _, rfl, _⟩ := h; rfl) | (obtain ⟨_, _, _, _, _, _, rfl, _⟩ := h; rfl) | (obtain ⟨_, _, _, ⟨rfl, _⟩, _⟩ := h; rfl) | exact h.elim) fun cdv A outer s H E us M q e hr hg tk h => ⟨_, j_is_tie T (ok_is_row T) (ok_are_places T) (ok_is_weight T) cdv A outer s H E hr hg, r_is_tie h⟩⟩, F.kp⟩
theorem ok_wrong_tie {P : Program} {w : World} {K : Frag} {mg : Str → Option Value} {base : Heap} (T : Tx K mg) : Def' P w K mg base 5 (He.ga K "wrong_tie") ["many", "ties"] (sp_wrong_tie K) := by
  obtain ⟨fd, F0⟩ := T.says.def_ 12 (d := d_wrong_tie) rfl
  have F : FunD K "wrong_tie" "wrong_tie" (defArgs s_wrong_tie) (defBody s_wrong_tie) (defScope s_wrong_tie) [] [] (He.ga K "wrong_tie") fd := F0
  have b : Binds K fd ["many", "ties"] [] := F.bindsN fun _ _ _ _ _ _ us hl => match us, hl with | [_, _], _ => rfl
  exact ⟨⟨fd, b, fn_tree (fun_of F) sc_wrong_tie (fun us M q e h => by first | (obtain ⟨_, rfl, _⟩ := h; rfl) | (obtain ⟨_, _, rfl, _⟩ := h; rfl) | (obtain ⟨_, _, _, rfl, _⟩ := h; rfl) | (obtain ⟨_, _, _, _, rfl, _⟩ := h; rfl) | (obtain ⟨_, _, _, _, _, rfl, _⟩ := h; rfl) | (obtain ⟨_, _, _, _, _, _, rfl, _⟩ := h; rfl) | (obtain ⟨_, _, _, ⟨rfl, _⟩, _⟩ := h; rfl) | exact h.elim) fun cdv A outer s H E us M q e hr hg tk h => ⟨_, j_wrong_tie T (ok_is_row T) (ok_is_tie T) cdv A outer s H E hr hg, r_wrong_tie h⟩⟩, F.kp⟩
theorem ok_put_weights {P : Program} {w : World} {K : Frag} {mg : Str → Option Value} {base : Heap} (T : Tx K mg) : Def' P w K mg base 1 (He.ga K "put_weights") ["web", "weights"] (sp_put_weights K) := by
  obtain ⟨fd, F0⟩ := T.says.def_ 14 (d := d_put_weights) rfl
  have F : FunD K "put_weights" "put_weights" (defArgs s_put_weights) (defBody s_put_weights) (defScope s_put_weights) [] [] (He.ga K "put_weights") fd := F0
  have b : Binds K fd ["web", "weights"] [] := F.bindsN fun _ _ _ _ _ _ us hl => match us, hl with | [_, _], _ => rfl
  exact ⟨⟨fd, b, fn_tree (fun_of F) sc_put_weights (fun us M q e h => by first | (obtain ⟨_, rfl, _⟩ := h; rfl) | (obtain ⟨_, _, rfl, _⟩ := h; rfl) | (obtain ⟨_, _, _, rfl, _⟩ := h; rfl) | (obtain ⟨_, _, _, _, rfl, _⟩ := h; rfl) | (obtain ⟨_, _, _, _, _, rfl, _⟩ := h; rfl) | (obtain ⟨_, _, _, _, _, _, rfl, _⟩ := h; rfl) | (obtain ⟨_, _, _, ⟨rfl, _⟩, _⟩ := h; rfl) | exact h.elim) fun cdv A outer s H E us M q e hr hg tk h => ⟨_, j_put_weights T cdv A outer s H E hr hg, r_put_weights ⟨T.cls 60 rfl, T.noat 62 rfl⟩ ⟨T.cls 60 rfl, T.noat 63 rfl⟩ h⟩⟩, F.kp⟩
theorem ok_as_tuples {P : Program} {w : World} {K : Frag} {mg : Str → Option Value} {base : Heap} (T : Tx K mg) : ∀ n, Def' P w K mg base (2 + n) (He.ga K "as_tuples") ["thing"] (sp_as_tuples n K) := by
  obtain ⟨fd, F0⟩ := T.says.def_ 4 (d := d_as_tuples) rfl
  have F : FunD K "as_tuples" "as_tuples" (defArgs s_as_tuples) (defBody s_as_tuples) (defScope s_as_tuples) [] [] (He.ga K "as_tuples") fd := F0
  have b : Binds K fd ["thing"] [] := F.bindsN fun _ _ _ _ _ _ us hl => match us, hl with | [_], _ => rfl
  have go : ∀ (sp : Sp') (n k : Nat), 1 ≤ k → Def' P w K mg base k (He.ga K "as_tuples") ["thing"] sp → (∀ m, n = m + 1 → sp = sp_as_tuples m K) → Def' P w K mg base (k + 1) (He.ga K "as_tuples") ["thing"] (sp_as_tuples n K) := fun sp n k hk D hsp =>
    ⟨⟨fd, b, fn_tree (fun_of F) sc_as_tuples (fun us M q e h => by first | (obtain ⟨_, rfl, _⟩ := h; rfl) | (obtain ⟨_, _, rfl, _⟩ := h; rfl) | (obtain ⟨_, _, _, rfl, _⟩ := h; rfl) | (obtain ⟨_, _, _, _, rfl, _⟩ := h; rfl) | (obtain ⟨_, _, _, _, _, rfl, _⟩ := h; rfl) | (obtain ⟨_, _, _, _, _, _, rfl, _⟩ := h; rfl) | (obtain ⟨_, _, _, ⟨rfl, _⟩, _⟩ := h; rfl) | exact h.elim) fun cdv A outer s H E us M q e hr hg tk h => ⟨_, j_as_tuples sp k (by omega) T (ok_is_row T) D cdv A outer s H E hr hg, r_as_tuples n sp hsp h⟩⟩, F.kp⟩
  intro n
  induction n with
  | zero => exact go (fun _ _ _ _ => False) 0 1 (by omega) (Def'.none b F.kp) (fun m h => by cases h)
  | succ n ih => exact go _ (n + 1) (2 + n) (by omega) ih (fun m h => by cases h; rfl)
theorem ok_weights_in {P : Program} {w : World} {K : Frag} {mg : Str → Option Value} {base : Heap} (T : Tx K mg) : Def' P w K mg base 4 (He.ga K "weights_in") ["ties"] (sp_weights_in K) := by
  obtain ⟨fd, F0⟩ := T.says.def_ 13 (d := d_weights_in) rfl
  have F : FunD K "weights_in" "weights_in" (defArgs s_weights_in) (defBody s_weights_in) (defScope s_weights_in) [] [] (He.ga K "weights_in") fd := F0
  have b : Binds K fd ["ties"] [] := F.bindsN fun _ _ _ _ _ _ us hl => match us, hl with | [_], _ => rfl
  exact ⟨⟨fd, b, fn_tree (fun_of F) sc_weights_in (fun us M q e h => by first | (obtain ⟨_, rfl, _⟩ := h; rfl) | (obtain ⟨_, _, rfl, _⟩ := h; rfl) | (obtain ⟨_, _, _, rfl, _⟩ := h; rfl) | (obtain ⟨_, _, _, _, rfl, _⟩ := h; rfl) | (obtain ⟨_, _, _, _, _, rfl, _⟩ := h; rfl) | (obtain ⟨_, _, _, _, _, _, rfl, _⟩ := h; rfl) | (obtain ⟨_, _, _, ⟨rfl, _⟩, _⟩ := h; rfl) | exact h.elim) fun cdv A outer s H E us M q e hr hg tk h => ⟨_, j_weights_in T (ok_as_tuples (base := base) (P := P) (w := w) T 1) cdv A outer s H E hr hg, r_weights_in h⟩⟩, F.kp⟩
theorem ok_Web_init {P : Program} {w : World} {K : Frag} {mg : Str → Option Value} {base : Heap} (T : Tx K mg) : Def' P w K mg base 6 (He.ma K (He.ga K "Web") "__init__") ["self", "many", "ties"] (sp_Web_init K) := by
  obtain ⟨fd, F0⟩ := T.says.def_ 8 (d := d_Web_init) rfl
  have F : FunD K "__init__" "Web.__init__" (defArgs s_Web_init) (defBody s_Web_init) (defScope s_Web_init) [] [] (He.ma K (He.ga K "Web") "__init__") fd := F0
  have b : Binds K fd ["self", "many", "ties"] [] := F.bindsN fun _ _ _ _ _ _ us hl => match us, hl with | [_, _, _], _ => rfl
  exact ⟨⟨fd, b, fn_tree (fun_of F) sc_Web_init (fun us M q e h => by first | (obtain ⟨_, rfl, _⟩ := h; rfl) | (obtain ⟨_, _, rfl, _⟩ := h; rfl) | (obtain ⟨_, _, _, rfl, _⟩ := h; rfl) | (obtain ⟨_, _, _, _, rfl, _⟩ := h; rfl) | (obtain ⟨_, _, _, _, _, rfl, _⟩ := h; rfl) | (obtain ⟨_, _, _, _, _, _, rfl, _⟩ := h; rfl) | (obtain ⟨_, _, _, ⟨rfl, _⟩, _⟩ := h; rfl) | exact h.elim) fun cdv A outer s H E us M q e hr hg tk h => ⟨_, j_Web_init T (ok_is_whole T) (ok_wrong_tie T) (ok_put_weights T) (ok_weights_in T) cdv A outer s H E hr hg, r_Web_init ⟨T.cls 60 rfl, T.noat 61 rfl⟩ ⟨T.cls 60 rfl, T.noat 62 rfl⟩ ⟨T.cls 60 rfl, T.noat 63 rfl⟩ h⟩⟩, F.kp⟩
theorem ok_read_web {P : Program} {w : World} {K : Frag} {mg : Str → Option Value} {base : Heap} (T : Tx K mg) : Def' P w K mg base 8 (He.ga K "read_web") ["text"] (sp_read_web K) := by
  obtain ⟨fd, F0⟩ := T.says.def_ 20 (d := d_read_web) rfl
  have F : FunD K "read_web" "read_web" (defArgs s_read_web) (defBody s_read_web) (defScope s_read_web) [] [] (He.ga K "read_web") fd := F0
  have b : Binds K fd ["text"] [] := F.bindsN fun _ _ _ _ _ _ us hl => match us, hl with | [_], _ => rfl
  exact ⟨⟨fd, b, fn_tree (fun_of F) sc_read_web (fun us M q e h => by first | (obtain ⟨_, rfl, _⟩ := h; rfl) | (obtain ⟨_, _, rfl, _⟩ := h; rfl) | (obtain ⟨_, _, _, rfl, _⟩ := h; rfl) | (obtain ⟨_, _, _, _, rfl, _⟩ := h; rfl) | (obtain ⟨_, _, _, _, _, rfl, _⟩ := h; rfl) | (obtain ⟨_, _, _, _, _, _, rfl, _⟩ := h; rfl) | (obtain ⟨_, _, _, ⟨rfl, _⟩, _⟩ := h; rfl) | exact h.elim) fun cdv A outer s H E us M q e hr hg tk h => ⟨_, j_read_web e T (ok_lines_in T) (ok_many_in T) (ok_row_in T) (ok_is_tie T) (ok_Web_init T) cdv A outer s H E hr hg tk, r_read_web h⟩⟩, F.kp⟩
theorem ok_rows_in {P : Program} {w : World} {K : Frag} {mg : Str → Option Value} {base : Heap} (T : Tx K mg) : Def' P w K mg base 4 (He.ga K "rows_in") ["text", "word"] (sp_rows_in K) := by
  obtain ⟨fd, F0⟩ := T.says.def_ 21 (d := d_rows_in) rfl
  have F : FunD K "rows_in" "rows_in" (defArgs s_rows_in) (defBody s_rows_in) (defScope s_rows_in) [] [] (He.ga K "rows_in") fd := F0
  have b : Binds K fd ["text", "word"] [] := F.bindsN fun _ _ _ _ _ _ us hl => match us, hl with | [_, _], _ => rfl
  exact ⟨⟨fd, b, fn_tree (fun_of F) sc_rows_in (fun us M q e h => by first | (obtain ⟨_, rfl, _⟩ := h; rfl) | (obtain ⟨_, _, rfl, _⟩ := h; rfl) | (obtain ⟨_, _, _, rfl, _⟩ := h; rfl) | (obtain ⟨_, _, _, _, rfl, _⟩ := h; rfl) | (obtain ⟨_, _, _, _, _, rfl, _⟩ := h; rfl) | (obtain ⟨_, _, _, _, _, _, rfl, _⟩ := h; rfl) | (obtain ⟨_, _, _, ⟨rfl, _⟩, _⟩ := h; rfl) | exact h.elim) fun cdv A outer s H E us M q e hr hg tk h => ⟨_, j_rows_in e T (ok_lines_in T) (ok_row_in T) cdv A outer s H E hr hg tk, r_rows_in h⟩⟩, F.kp⟩
theorem ok_read_tree {P : Program} {w : World} {K : Frag} {mg : Str → Option Value} {base : Heap} (T : Tx K mg) : Def' P w K mg base 5 (He.ga K "read_tree") ["text"] (sp_read_tree K) := by
  obtain ⟨fd, F0⟩ := T.says.def_ 22 (d := d_read_tree) rfl
  have F : FunD K "read_tree" "read_tree" (defArgs s_read_tree) (defBody s_read_tree) (defScope s_read_tree) [] [] (He.ga K "read_tree") fd := F0
  have b : Binds K fd ["text"] [] := F.bindsN fun _ _ _ _ _ _ us hl => match us, hl with | [_], _ => rfl
  exact ⟨⟨fd, b, fn_tree (fun_of F) sc_read_tree (fun us M q e h => by first | (obtain ⟨_, rfl, _⟩ := h; rfl) | (obtain ⟨_, _, rfl, _⟩ := h; rfl) | (obtain ⟨_, _, _, rfl, _⟩ := h; rfl) | (obtain ⟨_, _, _, _, rfl, _⟩ := h; rfl) | (obtain ⟨_, _, _, _, _, rfl, _⟩ := h; rfl) | (obtain ⟨_, _, _, _, _, _, rfl, _⟩ := h; rfl) | (obtain ⟨_, _, _, ⟨rfl, _⟩, _⟩ := h; rfl) | exact h.elim) fun cdv A outer s H E us M q e hr hg tk h => ⟨_, j_read_tree e T (ok_rows_in T) cdv A outer s H E hr hg tk, r_read_tree h⟩⟩, F.kp⟩
theorem ok_read_flow {P : Program} {w : World} {K : Frag} {mg : Str → Option Value} {base : Heap} (T : Tx K mg) : Def' P w K mg base 5 (He.ga K "read_flow") ["text"] (sp_read_flow K) := by
  obtain ⟨fd, F0⟩ := T.says.def_ 23 (d := d_read_flow) rfl
  have F : FunD K "read_flow" "read_flow" (defArgs s_read_flow) (defBody s_read_flow) (defScope s_read_flow) [] [] (He.ga K "read_flow") fd := F0
  have b : Binds K fd ["text"] [] := F.bindsN fun _ _ _ _ _ _ us hl => match us, hl with | [_], _ => rfl
  exact ⟨⟨fd, b, fn_tree (fun_of F) sc_read_flow (fun us M q e h => by first | (obtain ⟨_, rfl, _⟩ := h; rfl) | (obtain ⟨_, _, rfl, _⟩ := h; rfl) | (obtain ⟨_, _, _, rfl, _⟩ := h; rfl) | (obtain ⟨_, _, _, _, rfl, _⟩ := h; rfl) | (obtain ⟨_, _, _, _, _, rfl, _⟩ := h; rfl) | (obtain ⟨_, _, _, _, _, _, rfl, _⟩ := h; rfl) | (obtain ⟨_, _, _, ⟨rfl, _⟩, _⟩ := h; rfl) | exact h.elim) fun cdv A outer s H E us M q e hr hg tk h => ⟨_, j_read_flow e T (ok_rows_in T) cdv A outer s H E hr hg tk, r_read_flow h⟩⟩, F.kp⟩
theorem ok_read_sides {P : Program} {w : World} {K : Frag} {mg : Str → Option Value} {base : Heap} (T : Tx K mg) : Def' P w K mg base 3 (He.ga K "read_sides") ["text"] (sp_read_sides K) := by
  obtain ⟨fd, F0⟩ := T.says.def_ 24 (d := d_read_sides) rfl
  have F : FunD K "read_sides" "read_sides" (defArgs s_read_sides) (defBody s_read_sides) (defScope s_read_sides) [] [] (He.ga K "read_sides") fd := F0
  have b : Binds K fd ["text"] [] := F.bindsN fun _ _ _ _ _ _ us hl => match us, hl with | [_], _ => rfl
  exact ⟨⟨fd, b, fn_tree (fun_of F) sc_read_sides (fun us M q e h => by first | (obtain ⟨_, rfl, _⟩ := h; rfl) | (obtain ⟨_, _, rfl, _⟩ := h; rfl) | (obtain ⟨_, _, _, rfl, _⟩ := h; rfl) | (obtain ⟨_, _, _, _, rfl, _⟩ := h; rfl) | (obtain ⟨_, _, _, _, _, rfl, _⟩ := h; rfl) | (obtain ⟨_, _, _, _, _, _, rfl, _⟩ := h; rfl) | (obtain ⟨_, _, _, ⟨rfl, _⟩, _⟩ := h; rfl) | exact h.elim) fun cdv A outer s H E us M q e hr hg tk h => ⟨_, j_read_sides e T (ok_lines_in T) (ok_number_in T) cdv A outer s H E hr hg tk, r_read_sides h⟩⟩, F.kp⟩
theorem ok__law_caught {P : Program} {w : World} {K : Frag} {mg : Str → Option Value} {base : Heap} (T : Tx K mg) : Def' P w K mg base 9 (He.ga K "_law_caught") ["_law_which", "_law_text"] (sp__law_caught K) := by
  obtain ⟨fd, F0⟩ := T.says.def_ 33 (d := d__law_caught) rfl
  have F : FunD K "_law_caught" "_law_caught" (defArgs s__law_caught) (defBody s__law_caught) (defScope s__law_caught) [] [] (He.ga K "_law_caught") fd := F0
  have b : Binds K fd ["_law_which", "_law_text"] [] := F.bindsN fun _ _ _ _ _ _ us hl => match us, hl with | [_, _], _ => rfl
  exact ⟨⟨fd, b, fn_tree (fun_of F) sc__law_caught (fun us M q e h => by first | (obtain ⟨_, rfl, _⟩ := h; rfl) | (obtain ⟨_, _, rfl, _⟩ := h; rfl) | (obtain ⟨_, _, _, rfl, _⟩ := h; rfl) | (obtain ⟨_, _, _, _, rfl, _⟩ := h; rfl) | (obtain ⟨_, _, _, _, _, rfl, _⟩ := h; rfl) | (obtain ⟨_, _, _, _, _, _, rfl, _⟩ := h; rfl) | (obtain ⟨_, _, _, ⟨rfl, _⟩, _⟩ := h; rfl) | exact h.elim) fun cdv A outer s H E us M q e hr hg tk h => ⟨_, j__law_caught T (ok_read_web T) (ok_read_tree T) (ok_read_flow T) (ok_read_sides T) cdv A outer s H E hr hg, r__law_caught (xcB_ok T.xc_NoLine) (of_decide_eq_true T.exm_Cut) (of_decide_eq_true T.is_NoLine) (of_decide_eq_true T.is_VE) (of_decide_eq_true T.no_at) h⟩⟩, F.kp⟩
theorem ok__law_webs {P : Program} {w : World} {K : Frag} {mg : Str → Option Value} {base : Heap} (T : Tx K mg) : Def' P w K mg base 10 (He.ga K "_law_webs") ["_law_deck_here"] (sp__law_webs K) := by
  obtain ⟨fd, F0⟩ := T.says.def_ 36 (d := d__law_webs) rfl
  have F : FunD K "_law_webs" "_law_webs" (defArgs s__law_webs) (defBody s__law_webs) (defScope s__law_webs) [] [] (He.ga K "_law_webs") fd := F0
  have b : Binds K fd ["_law_deck_here"] [] := F.bindsN fun _ _ _ _ _ _ us hl => match us, hl with | [_], _ => rfl
  exact ⟨⟨fd, b, fn_tree (fun_of F) sc__law_webs (fun us M q e h => by first | (obtain ⟨_, rfl, _⟩ := h; rfl) | (obtain ⟨_, _, rfl, _⟩ := h; rfl) | (obtain ⟨_, _, _, rfl, _⟩ := h; rfl) | (obtain ⟨_, _, _, _, rfl, _⟩ := h; rfl) | (obtain ⟨_, _, _, _, _, rfl, _⟩ := h; rfl) | (obtain ⟨_, _, _, _, _, _, rfl, _⟩ := h; rfl) | (obtain ⟨_, _, _, ⟨rfl, _⟩, _⟩ := h; rfl) | exact h.elim) fun cdv A outer s H E us M q e hr hg tk h => ⟨_, j__law_webs T (ok__law_ties T) (ok__law_line T) (ok__law_wrong T) (ok__law_put T) (ok__law_caught T) cdv A outer s H E hr hg, r__law_webs h⟩⟩, F.kp⟩
theorem ok__law_lowest {P : Program} {w : World} {K : Frag} {mg : Str → Option Value} {base : Heap} (T : Tx K mg) : Def' P w K mg base 1 (He.ga K "_law_lowest") ["_law_above", "_law_below"] (sp__law_lowest K) := by
  obtain ⟨fd, F0⟩ := T.says.def_ 26 (d := d__law_lowest) rfl
  have F : FunD K "_law_lowest" "_law_lowest" (defArgs s__law_lowest) (defBody s__law_lowest) (defScope s__law_lowest) [] [] (He.ga K "_law_lowest") fd := F0
  have b : Binds K fd ["_law_above", "_law_below"] [] := F.bindsN fun _ _ _ _ _ _ us hl => match us, hl with | [_, _], _ => rfl
  exact ⟨⟨fd, b, fn_tree (fun_of F) sc__law_lowest (fun us M q e h => by first | (obtain ⟨_, rfl, _⟩ := h; rfl) | (obtain ⟨_, _, rfl, _⟩ := h; rfl) | (obtain ⟨_, _, _, rfl, _⟩ := h; rfl) | (obtain ⟨_, _, _, _, rfl, _⟩ := h; rfl) | (obtain ⟨_, _, _, _, _, rfl, _⟩ := h; rfl) | (obtain ⟨_, _, _, _, _, _, rfl, _⟩ := h; rfl) | (obtain ⟨_, _, _, ⟨rfl, _⟩, _⟩ := h; rfl) | exact h.elim) fun cdv A outer s H E us M q e hr hg tk h => ⟨_, j__law_lowest T cdv A outer s H E hr hg, r__law_lowest h⟩⟩, F.kp⟩
theorem ok__law_any {P : Program} {w : World} {K : Frag} {mg : Str → Option Value} {base : Heap} (T : Tx K mg) : Def' P w K mg base 2 (He.ga K "_law_any") ["_law_deck_here"] (sp__law_any K) := by
  obtain ⟨fd, F0⟩ := T.says.def_ 28 (d := d__law_any) rfl
  have F : FunD K "_law_any" "_law_any" (defArgs s__law_any) (defBody s__law_any) (defScope s__law_any) [] [] (He.ga K "_law_any") fd := F0
  have b : Binds K fd ["_law_deck_here"] [] := F.bindsN fun _ _ _ _ _ _ us hl => match us, hl with | [_], _ => rfl
  exact ⟨⟨fd, b, fn_tree (fun_of F) sc__law_any (fun us M q e h => by first | (obtain ⟨_, rfl, _⟩ := h; rfl) | (obtain ⟨_, _, rfl, _⟩ := h; rfl) | (obtain ⟨_, _, _, rfl, _⟩ := h; rfl) | (obtain ⟨_, _, _, _, rfl, _⟩ := h; rfl) | (obtain ⟨_, _, _, _, _, rfl, _⟩ := h; rfl) | (obtain ⟨_, _, _, _, _, _, rfl, _⟩ := h; rfl) | (obtain ⟨_, _, _, ⟨rfl, _⟩, _⟩ := h; rfl) | exact h.elim) fun cdv A outer s H E us M q e hr hg tk h => ⟨_, j__law_any T (ok__law_lowest T) cdv A outer s H E hr hg, r__law_any h⟩⟩, F.kp⟩
theorem ok__law_drawn {P : Program} {w : World} {K : Frag} {mg : Str → Option Value} {base : Heap} (T : Tx K mg) : Def' P w K mg base 3 (He.ga K "_law_drawn") ["_law_deck_here", "_law_many"] (sp__law_drawn K) := by
  obtain ⟨fd, F0⟩ := T.says.def_ 29 (d := d__law_drawn) rfl
  have F : FunD K "_law_drawn" "_law_drawn" (defArgs s__law_drawn) (defBody s__law_drawn) (defScope s__law_drawn) [] [] (He.ga K "_law_drawn") fd := F0
  have b : Binds K fd ["_law_deck_here", "_law_many"] [] := F.bindsN fun _ _ _ _ _ _ us hl => match us, hl with | [_, _], _ => rfl
  exact ⟨⟨fd, b, fn_tree (fun_of F) sc__law_drawn (fun us M q e h => by first | (obtain ⟨_, rfl, _⟩ := h; rfl) | (obtain ⟨_, _, rfl, _⟩ := h; rfl) | (obtain ⟨_, _, _, rfl, _⟩ := h; rfl) | (obtain ⟨_, _, _, _, rfl, _⟩ := h; rfl) | (obtain ⟨_, _, _, _, _, rfl, _⟩ := h; rfl) | (obtain ⟨_, _, _, _, _, _, rfl, _⟩ := h; rfl) | (obtain ⟨_, _, _, ⟨rfl, _⟩, _⟩ := h; rfl) | exact h.elim) fun cdv A outer s H E us M q e hr hg tk h => ⟨_, j__law_drawn T (ok__law_any T) cdv A outer s H E hr hg, r__law_drawn h⟩⟩, F.kp⟩
theorem ok__law_places {P : Program} {w : World} {K : Frag} {mg : Str → Option Value} {base : Heap} (T : Tx K mg) : Def' P w K mg base 1 (He.ga K "_law_places") ["_law_deck_here", "_law_many"] (sp__law_places K) := by
  obtain ⟨fd, F0⟩ := T.says.def_ 30 (d := d__law_places) rfl
  have F : FunD K "_law_places" "_law_places" (defArgs s__law_places) (defBody s__law_places) (defScope s__law_places) [] [] (He.ga K "_law_places") fd := F0
  have b : Binds K fd ["_law_deck_here", "_law_many"] [] := F.bindsN fun _ _ _ _ _ _ us hl => match us, hl with | [_, _], _ => rfl
  exact ⟨⟨fd, b, fn_tree (fun_of F) sc__law_places (fun us M q e h => by first | (obtain ⟨_, rfl, _⟩ := h; rfl) | (obtain ⟨_, _, rfl, _⟩ := h; rfl) | (obtain ⟨_, _, _, rfl, _⟩ := h; rfl) | (obtain ⟨_, _, _, _, rfl, _⟩ := h; rfl) | (obtain ⟨_, _, _, _, _, rfl, _⟩ := h; rfl) | (obtain ⟨_, _, _, _, _, _, rfl, _⟩ := h; rfl) | (obtain ⟨_, _, _, ⟨rfl, _⟩, _⟩ := h; rfl) | exact h.elim) fun cdv A outer s H E us M q e hr hg tk h => ⟨_, j__law_places T cdv A outer s H E hr hg, r__law_places h⟩⟩, F.kp⟩
theorem facts {P : Program} {w : World} {K : Frag} {h : Heap} {mg : Str → Option Value} {f : Addr} (X : K.In h) (G : h.Ns mainGlobals mg) (hfa : mg ("law" : Str) = some (.ref f)) (c : He.SaysX fa fn [] [] exB w h K) :
    ∃ fd : FuncData, (∀ (s : Shared) (v : Value), BindsTo s fd ⟨[v], []⟩ [("_law_script", v)]) ∧ ∀ base : Heap, K.In base → base.Ns mainGlobals mg → FnG P w K mg base 11 f fd ["_law_script"] (lowSp K (sp_law K)) := by
  have T := tx_of (w := w) X G c
  have e := hfa.symm.trans (T.glo 33 rfl)
  cases e
  obtain ⟨fd, F0⟩ := T.says.def_ 37 (d := d_law) rfl
  have F : FunD K "law" "law" (defArgs s_law) (defBody s_law) (defScope s_law) [] [] (He.ga K "law") fd := F0
  have b : Binds K fd ["_law_script"] [] := F.bindsN fun _ _ _ _ _ _ us hl => match us, hl with | [_], _ => rfl
  have bA := FunD.bindsA (ps := ["_law_script"]) F fun _ _ _ _ _ _ us hl => match us, hl with | [_], _ => rfl
  exact ⟨fd, fun s v => bA s [v] rfl, fun base _ _ => fn_tree (fun_of F) sc_law (fun us M q e h => by first | (obtain ⟨_, rfl, _⟩ := h; rfl) | (obtain ⟨_, _, rfl, _⟩ := h; rfl) | (obtain ⟨_, _, _, rfl, _⟩ := h; rfl) | (obtain ⟨_, _, _, _, rfl, _⟩ := h; rfl) | (obtain ⟨_, _, _, _, _, rfl, _⟩ := h; rfl) | (obtain ⟨_, _, _, _, _, _, rfl, _⟩ := h; rfl) | (obtain ⟨_, _, _, ⟨rfl, _⟩, _⟩ := h; rfl) | exact h.elim) fun cdv A outer s H E us M q e hr hg tk h => ⟨_, j_law T (ok__law_deck T) (ok__law_webs T) (ok__law_drawn T) (ok__law_places T) (ok__law_line T) (ok__law_wrong T) (ok__law_put T) (ok__law_caught T) cdv A outer s H E hr hg, r_law h⟩⟩
end Cw
open PySem PySem.W PySem.Calls PyProof.Rows
set_option maxRecDepth 100000 in
set_option maxHeartbeats 0 in
theorem PySem.Challenge.cw_cutstree_k70_no_lines_holds : PySem.Challenge.rw_cutstree_k70_no_lines.Holds := by
  w_on; o_law
  refine HandSHeadRun.head_any (r := OpenLaw.row PySem.Challenge.rw_cutstree_k70_no_lines) (q := view (OpenLaw.row PySem.Challenge.rw_cutstree_k70_no_lines).prog [51]) (H := Cw.hk) (ob := Cw.ob) (M := 2500) (loose := Cw.loose) (d := HandSHeadRun.topDef (OpenLaw.row PySem.Challenge.rw_cutstree_k70_no_lines).prog 51) (kwd := []) Cw.ob_eq
    (by kernel_rfl) (fun s => by kernel_rfl) Cw.run (by kernel_rfl) (by kernel_rfl) (by kernel_rfl) (by rfl) (by first | assumption | decide +kernel) (by decide +kernel) ⟨rfl, rfl, rfl, rfl, rfl, by decide +kernel⟩ ?hw ?hc
  case hw => w_witness2
  case hc =>
    refine L3.walk_treeE (l := PySem.Challenge.rw_cutstree_k70_no_lines) (n := 63) (k := 11) (x := "_law_script") rfl (by decide) (by kernel_rfl) ⟨rfl, by decide, by decide⟩ ?F
    intro w mg fa h Y G hmg0
    obtain ⟨K, KX, c⟩ := Y
    have hmg : mg ("law" : PySem.Str) = some (.ref fa) := by
      have e : (HandSHeadRun.topDef (OpenLaw.row PySem.Challenge.rw_cutstree_k70_no_lines).prog 51).name = ("law" : PySem.Str) := by kernel_rfl
      rw [← e]
      exact hmg0
    obtain ⟨fd, hb, hF⟩ := Cw.facts (P := PySem.Challenge.rw_cutstree_k70_no_lines.prog) (w := w) KX G hmg c
    exact ⟨K, fd, Cw.sp_law K, KX, hb, fun ns hl => ⟨ns, rfl, hl, fun _ => rfl⟩, hF⟩


