import PyProof.Rows.All
import Wide.All
import OpenK.AllK
import Wide.FinOn
import HandS.ForMost
import HandS.Exc
import HandS.TryOnly
import HandS.WordsExc
import HandS.Codes
import HandS.Defaults
import HandS.TupAny
import HandS.Lambda
import HandS.Nested
import HandS.ExcOwn
import HandS.Style
import HandS.Wide
import HandS.IsInst
import HandS.Conv
import HandS.SetFor
import HandS.SortInts
import PyProof.AutoSeq1
import HandS.TupLen
import HandS.More
import HandS.Iter
import HandS.ExcInit
import HandS.ExcIs
import HandS.ClsMeth
import HandS.HeadHook4
import HandS.HeadWalk
import HandS.Head0
import HandS.Head1
import HandS.Head2
import HandS.HeadEnd
import KE.GoesMore
import KE.SortData
import HandS.Strs
import HandS.TupMul
import HandS.Deep
import PyProof.ListStr
import HandS.Zip
import HandS.DictComp
import KE.KDflt
import PySem.Challenge.RW_withterms_k19_whole_steps_at_the_head
set_option Elab.async false
set_option linter.all false
set_option maxRecDepth 100000
set_option maxHeartbeats 4000000
/-! A layer over HandS: tuples as plain trees, a store of cells, abstract readings. -/
namespace A3
open PySem PySem.Spec PyProof.Rows L2

/-! ### values as trees -/
inductive Val where
  | non | bl (b : Bool) | int (i : Int) | str (x : Str) | tup (xs : List Val) | ref (a : Addr)

/-- what stands as a tuple stays so -/
def TupX (K : PySem.W.Frag) (H H' : Hp) : Prop := ∀ p ys, H p = some (.tup ys) → H' p = some (.tup ys)
theorem TupX.refl {K : PySem.W.Frag} (H : Hp) : TupX K H H := fun _ _ h => h
theorem TupX.trans {K : PySem.W.Frag} {H H1 H2 : Hp} (a : TupX K H H1) (b : TupX K H1 H2) : TupX K H H2 := fun p ys h => b p ys (a p ys h)
/-- a place that bears no tuple is written -/
theorem TupX.upd {K : PySem.W.Frag} {H : Hp} {a : Addr} {o : HO} (h : ∀ xs, ¬ H a = some (.tup xs)) : TupX K H (upd H a o) := fun p ys q => by
  by_cases e : p = a
  · subst e; exact absurd q (h ys)
  · rw [upd_ne e]; exact q
theorem noTup_none {H : Hp} {a : Addr} (h : H a = none) : ∀ xs, ¬ H a = some (.tup xs) := fun xs q => by
  rw [h] at q; cases q
theorem noTup_of {H : Hp} {a : Addr} {o : HO} (h : H a = some o) (h1 : ∀ xs, o ≠ .tup xs) : ∀ xs, ¬ H a = some (.tup xs) := fun xs q => by
  rw [h] at q; exact h1 xs (Option.some.inj q)

mutual
inductive VRep (K : PySem.W.Frag) (H : Hp) : Val → V → Prop
  | non : VRep K H .non .non
  | bl (b : Bool) : VRep K H (.bl b) (.bl b)
  | int (i : Int) : VRep K H (.int i) (.int i)
  | str (x : Str) : VRep K H (.str x) (.str x)
  | ref (a : Addr) : VRep K H (.ref a) (.ref a)
  | tup {p : Addr} {xs : List Val} {ys : List V} : H p = some (.tup ys) → VReps K H xs ys → VRep K H (.tup xs) (.ref p)
inductive VReps (K : PySem.W.Frag) (H : Hp) : List Val → List V → Prop
  | nil : VReps K H [] []
  | cons {x : Val} {y : V} {xs : List Val} {ys : List V} : VRep K H x y → VReps K H xs ys → VReps K H (x :: xs) (y :: ys)
end
mutual
theorem VRep.ext {K : PySem.W.Frag} {H H' : Hp} (h : TupX K H H') : ∀ {x : Val} {v : V}, VRep K H x v → VRep K H' x v
  | _, _, .non => .non
  | _, _, .bl b => .bl b
  | _, _, .int i => .int i
  | _, _, .str x => .str x
  | _, _, .ref a => .ref a
  | _, _, .tup s r => .tup (h _ _ s) (VReps.ext h r)
theorem VReps.ext {K : PySem.W.Frag} {H H' : Hp} (h : TupX K H H') : ∀ {x : List Val} {v : List V}, VReps K H x v → VReps K H' x v
  | _, _, .nil => .nil
  | _, _, .cons r t => .cons (VRep.ext h r) (VReps.ext h t)
end
section
variable {K : PySem.W.Frag} {H : Hp}
theorem VReps.length : ∀ {xs : List Val} {ys : List V}, VReps K H xs ys → xs.length = ys.length
  | _, _, .nil => rfl
  | _, _, .cons _ t => by rw [List.length_cons, List.length_cons, VReps.length t]
theorem VReps.append : ∀ {xs xs' : List Val} {ys ys' : List V}, VReps K H xs ys → VReps K H xs' ys' → VReps K H (xs ++ xs') (ys ++ ys')
  | _, _, _, _, .nil, s => s
  | _, _, _, _, .cons r t, s => .cons r (VReps.append t s)
theorem VReps.take : ∀ {xs : List Val} {ys : List V} (n : Nat), VReps K H xs ys → VReps K H (xs.take n) (ys.take n)
  | _, _, 0, _ => .nil
  | _, _, _ + 1, .nil => .nil
  | _, _, n + 1, .cons r t => .cons r (VReps.take n t)
theorem VReps.drop : ∀ {xs : List Val} {ys : List V} (n : Nat), VReps K H xs ys → VReps K H (xs.drop n) (ys.drop n)
  | _, _, 0, r => r
  | _, _, _ + 1, .nil => .nil
  | _, _, n + 1, .cons _ t => VReps.drop n t
theorem VReps.get : ∀ {xs : List Val} {ys : List V} {i : Nat} {x : Val}, VReps K H xs ys → xs[i]? = some x → ∃ y, ys[i]? = some y ∧ VRep K H x y
  | _, _, _, _, .nil, e => by simp at e
  | _, _, 0, _, .cons r _, e => by simp at e; subst e; exact ⟨_, rfl, r⟩
  | _, _, i + 1, x, .cons _ t, e => by
    obtain ⟨u, h1, h2⟩ := VReps.get (i := i) (x := x) t (by simpa using e)
    exact ⟨u, by simpa using h1, h2⟩
theorem VReps.get' : ∀ {xs : List Val} {ys : List V} {i : Nat} {y : V}, VReps K H xs ys → ys[i]? = some y → ∃ x, xs[i]? = some x ∧ VRep K H x y
  | _, _, _, _, .nil, e => by simp at e
  | _, _, 0, _, .cons r _, e => by simp at e; subst e; exact ⟨_, rfl, r⟩
  | _, _, i + 1, x, .cons _ t, e => by
    obtain ⟨u, h1, h2⟩ := VReps.get' (i := i) t (by simpa using e)
    exact ⟨u, by simpa using h1, h2⟩
theorem VReps.set {x : Val} {u : V} (r : VRep K H x u) : ∀ {xs : List Val} {us : List V} (i : Nat), VReps K H xs us → VReps K H (xs.set i x) (us.set i u)
  | _, _, _, .nil => .nil
  | _, _, 0, .cons _ t => .cons r t
  | _, _, i + 1, .cons q t => .cons q (VReps.set r i t)
theorem VReps.erase : ∀ {xs : List Val} {us : List V} (i : Nat), VReps K H xs us → VReps K H (xs.eraseIdx i) (us.eraseIdx i)
  | _, _, _, .nil => .nil
  | _, _, 0, .cons _ t => t
  | _, _, i + 1, .cons q t => .cons q (VReps.erase i t)
theorem VReps.dropLast : ∀ {xs : List Val} {us : List V}, VReps K H xs us → VReps K H xs.dropLast us.dropLast
  | _, _, .nil => .nil
  | _, _, .cons _ .nil => .nil
  | _, _, .cons r (.cons q t) => .cons r (VReps.dropLast (.cons q t))
theorem VReps.snoc {xs : List Val} {ys : List V} {x : Val} {y : V} (r : VReps K H xs ys) (q : VRep K H x y) : VReps K H (xs ++ [x]) (ys ++ [y]) := r.append (.cons q .nil)
theorem VReps.reverse : ∀ {xs : List Val} {ys : List V}, VReps K H xs ys → VReps K H xs.reverse ys.reverse
  | _, _, .nil => .nil
  | _, _, .cons r t => by rw [List.reverse_cons, List.reverse_cons]; exact VReps.snoc (VReps.reverse t) r
theorem VReps.rep {xs : List Val} {ys : List V} (r : VReps K H xs ys) : ∀ n : Nat, VReps K H (List.replicate n xs).flatten (List.replicate n ys).flatten
  | 0 => .nil
  | n + 1 => by rw [List.replicate_succ, List.replicate_succ, List.flatten_cons, List.flatten_cons]; exact r.append (VReps.rep r n)
end

/-! ### slots -/
abbrev St := L2.St
abbrev AEnv := List (Option Val)
structure ERep (K : PySem.W.Frag) (H : Hp) (es : AEnv) (σ : St) : Prop where
  len : es.length = σ.length
  get : ∀ (i : Nat) (x : Val), es[i]? = some (some x) → ∃ y, σ[i]? = some (some y) ∧ VRep K H x y
theorem ERep.ext {K : PySem.W.Frag} {H H' : Hp} {es : AEnv} {σ : St} (r : ERep K H es σ) (t : TupX K H H') : ERep K H' es σ := ⟨r.len, fun i x e => by
  obtain ⟨y, h1, h2⟩ := r.get i x e
  exact ⟨y, h1, h2.ext t⟩⟩
theorem ERep.set {K : PySem.W.Frag} {H : Hp} {es : AEnv} {σ : St} (r : ERep K H es σ) {x : Val} {y : V} (q : VRep K H x y) (i : Nat) : ERep K H (es.set i (some x)) (σ.set i (some y)) := ⟨by rw [List.length_set, List.length_set, r.len], fun j z e => by
  rw [List.getElem?_set] at e ⊢
  by_cases h : i = j
  · subst h
    rw [if_pos rfl] at e ⊢
    rw [← r.len]
    split at e
    · rename_i h1
      rw [if_pos h1]
      have e1 := Option.some.inj (Option.some.inj e)
      subst e1
      exact ⟨y, rfl, q⟩
    · cases e
  · rw [if_neg h] at e ⊢
    exact r.get j z e⟩
theorem ERep.del {K : PySem.W.Frag} {H : Hp} {es : AEnv} {σ : St} (r : ERep K H es σ) (i : Nat) : ERep K H (es.set i none) (σ.set i none) := ⟨by rw [List.length_set, List.length_set, r.len], fun j z e => by
  rw [List.getElem?_set] at e ⊢
  by_cases h : i = j
  · subst h
    rw [if_pos rfl] at e
    split at e <;> cases e
  · rw [if_neg h] at e ⊢
    exact r.get j z e⟩

/-! ### the store -/
inductive Cell where
  | lst (xs : List Val)
  | rd (xs : List Val)
  /-- a tuple that is known to bear no dict -/
  | ft (xs : List Val)
  | dk (kvs : List (Key × Val))
  | dt (kvs : List (List Key × Val))
  | ins (C dx : Addr) (fs : List (Str × Val))
  /-- an exception's own dict -/
  | xd (fs : List (Str × Val))
  /-- a lambda's code object, with the slots that it was made over -/
  | clo (q : Str) (es : AEnv) (σ : St)
  /-- a function that a nested def made -/
  | nfn (F : NdefX.NF)
abbrev Store := Addr → Option Cell
def ups (S : Store) (a : Addr) (c : Cell) : Store := fun b => if b = a then some c else S b
theorem ups_same {S : Store} {a : Addr} {c : Cell} : ups S a c a = some c := by unfold ups; rw [if_pos rfl]
theorem ups_ne {S : Store} {a b : Addr} {c : Cell} (h : b ≠ a) : ups S a c b = S b := by unfold ups; rw [if_neg h]

inductive PReps (K : PySem.W.Frag) (H : Hp) {κ : Type} : List (κ × Val) → List (κ × V) → Prop
  | nil : PReps K H [] []
  | cons {k : κ} {x : Val} {y : V} {xs : List (κ × Val)} {ys : List (κ × V)} : VRep K H x y → PReps K H xs ys → PReps K H ((k, x) :: xs) ((k, y) :: ys)
theorem PReps.ext {K : PySem.W.Frag} {H H' : Hp} {κ : Type} (h : TupX K H H') : ∀ {x : List (κ × Val)} {v : List (κ × V)}, PReps K H x v → PReps K H' x v
  | _, _, .nil => .nil
  | _, _, .cons r t => .cons (VRep.ext h r) (PReps.ext h t)
theorem PReps.length {K : PySem.W.Frag} {H : Hp} {κ : Type} : ∀ {xs : List (κ × Val)} {ys : List (κ × V)}, PReps K H xs ys → xs.length = ys.length
  | _, _, .nil => rfl
  | _, _, .cons _ t => by rw [List.length_cons, List.length_cons, PReps.length t]
theorem PReps.keys {K : PySem.W.Frag} {H : Hp} {κ : Type} : ∀ {xs : List (κ × Val)} {ys : List (κ × V)}, PReps K H xs ys → xs.map (·.1) = ys.map (·.1)
  | _, _, .nil => rfl
  | _, _, .cons _ t => by rw [List.map_cons, List.map_cons, PReps.keys t]

def CRep (K : PySem.W.Frag) (H : Hp) (a : Addr) : Cell → Prop
  | .lst xs => ∃ ys, H a = some (.lst ys) ∧ VReps K H xs ys
  | .rd xs => (∃ o u, H a = some (.frz o (.lst u))) ∧ ∃ ys, SqL K H a ys ∧ VReps K H xs ys
  | .ft xs => ∃ (o : Obj) (ys : List V), H a = some (.frz o (.tup ys)) ∧ o.dict = none ∧ VReps K H xs ys
  | .dk kvs => ∃ ys, H a = some (.dK ys) ∧ PReps K H kvs ys
  | .dt kvs => ∃ ys, H a = some (.dT ys) ∧ PReps K H kvs ys
  | .ins C dx fs => ∃ ys, H a = some (.ins C dx ys) ∧ PReps K H fs ys
  | .xd fs => ∃ ys, H a = some (.xd ys) ∧ PReps K H fs ys
  | .clo q es σ => H a = some (LamX.CodeO a q) ∧ ERep K H es σ
  | .nfn F => H a = some (NdefX.FnO a F) ∧ H F.c = some (LamX.CodeO F.c F.qual)
theorem CRep.there {K : PySem.W.Frag} {H : Hp} {a : Addr} {c : Cell} (h : CRep K H a c) : ∃ o, H a = some o ∧ (∀ xs, o ≠ .tup xs) ∧ True ∧ ∀ ps, o ≠ .tbl ps := by
  cases c with
  | lst xs => obtain ⟨ys, e, _⟩ := h; exact ⟨_, e, by simp, trivial, by simp⟩
  | rd xs => obtain ⟨⟨o, u, e⟩, _⟩ := h; exact ⟨_, e, by simp, trivial, by simp⟩
  | ft xs => obtain ⟨o, ys, e, _⟩ := h; exact ⟨_, e, by simp, trivial, by simp⟩
  | dk xs => obtain ⟨ys, e, _⟩ := h; exact ⟨_, e, by simp, trivial, by simp⟩
  | dt xs => obtain ⟨ys, e, _⟩ := h; exact ⟨_, e, by simp, trivial, by simp⟩
  | ins C dx fs => obtain ⟨ys, e, _⟩ := h; exact ⟨_, e, by simp, trivial, by simp⟩
  | xd fs => obtain ⟨ys, e, _⟩ := h; exact ⟨_, e, by simp, trivial, by simp⟩
  | clo q es σ => obtain ⟨e, _⟩ := h; exact ⟨_, e, by simp [LamX.CodeO], trivial, by simp [LamX.CodeO]⟩
  | nfn F => exact ⟨_, h.1, by simp [NdefX.FnO], trivial, by simp [NdefX.FnO]⟩
theorem CRep.noTup {K : PySem.W.Frag} {H : Hp} {a : Addr} {c : Cell} (h : CRep K H a c) : ∀ xs, ¬ H a = some (.tup xs) := by
  obtain ⟨o, e, h1, h2, _⟩ := h.there
  exact noTup_of e h1
/-- code objects stay -/
def CodX (H H' : Hp) : Prop := ∀ b q, H b = some (LamX.CodeO b q) → H' b = some (LamX.CodeO b q)
theorem CodX.new {H : Hp} {a : Addr} {o : HO} (h : H a = none) : CodX H (upd H a o) := fun b q e => by
  rw [upd_ne (ne_of_none e h)]; exact e
/-- a cell stays where its place stays and the tuples stay -/
theorem CRep.stay {K : PySem.W.Frag} {H H' : Hp} {a : Addr} {c : Cell} (h : CRep K H a c) (t : TupX K H H') (e : H' a = H a) (kc : CodX H H') : CRep K H' a c := by
  cases c with
  | lst xs => obtain ⟨ys, q, r⟩ := h; exact ⟨ys, e.trans q, r.ext t⟩
  | rd xs =>
    obtain ⟨⟨o, u, q⟩, ys, s, r⟩ := h
    refine ⟨⟨o, u, e.trans q⟩, ys, ?_, r.ext t⟩
    rcases s with s | s
    · refine .inl ?_
      unfold Rd at s ⊢
      rw [e]; exact s
    · exact .inr s
  | ft xs => obtain ⟨o, ys, q, d, r⟩ := h; exact ⟨o, ys, e.trans q, d, r.ext t⟩
  | dk xs => obtain ⟨ys, q, r⟩ := h; exact ⟨ys, e.trans q, r.ext t⟩
  | dt xs => obtain ⟨ys, q, r⟩ := h; exact ⟨ys, e.trans q, r.ext t⟩
  | ins C dx fs => obtain ⟨ys, q, r⟩ := h; exact ⟨ys, e.trans q, r.ext t⟩
  | xd fs => obtain ⟨ys, q, r⟩ := h; exact ⟨ys, e.trans q, r.ext t⟩
  | clo z es σ => obtain ⟨q, r⟩ := h; exact ⟨e.trans q, r.ext t⟩
  | nfn F => exact ⟨e.trans h.1, kc _ _ h.2⟩

abbrev Tb := List (Addr × Str)
structure SRep (K : PySem.W.Frag) (T : Tb) (S : Store) (H : Hp) : Prop where
  cell : ∀ a c, S a = some c → CRep K H a c
  tabs : LamX.Tabs T H
section
variable {K : PySem.W.Frag} {T : Tb} {S : Store} {H : Hp} {a : Addr} {c : Cell}
theorem SRep.free (r : SRep K T S H) (h : H a = none) : S a = none := by
  cases e : S a with
  | none => rfl
  | some c =>
    obtain ⟨o, q, _⟩ := (r.cell a c e).there
    rw [h] at q; cases q
/-- something that is no cell is laid at a free place (a tuple) -/
theorem SRep.laid {o : HO} (r : SRep K T S H) (h : H a = none) : SRep K T S (upd H a o) where
  cell := fun b c q => (r.cell b c q).stay (.upd (noTup_none h)) (upd_ne (by
    obtain ⟨o, z, _⟩ := (r.cell b c q).there
    exact ne_of_none z h)) (.new h)
  tabs := r.tabs.ext fun b u q => by rw [upd_ne (ne_of_none q h)]; exact q
/-- a new cell at a free place -/
theorem SRep.new {o : HO} (r : SRep K T S H) (h : H a = none) (new : CRep K (upd H a o) a c) : SRep K T (ups S a c) (upd H a o) where
  cell := fun b d q => by
    by_cases e : b = a
    · subst e; rw [ups_same] at q; cases q; exact new
    · rw [ups_ne e] at q
      exact (r.cell b d q).stay (.upd (noTup_none h)) (upd_ne e) (.new h)
  tabs := r.tabs.ext fun b u q => by rw [upd_ne (ne_of_none q h)]; exact q
def Cell.isClo : Cell → Bool
  | .clo _ _ _ => true
  | .nfn _ => true
  | _ => false
/-- a cell is written -/
theorem SRep.write {o : HO} {c' : Cell} (r : SRep K T S H) (h : S a = some c') (new : CRep K (upd H a o) a c) (hm : c'.isClo = false := by rfl) : SRep K T (ups S a c) (upd H a o) where
  cell := fun b d q => by
    by_cases e : b = a
    · subst e; rw [ups_same] at q; cases q; exact new
    · rw [ups_ne e] at q
      exact (r.cell b d q).stay (.upd (r.cell a c' h).noTup) (upd_ne e) fun b2 q2 e2 => by
        have n2 : b2 ≠ a := by
          intro z
          rw [z] at e2
          have cr := r.cell a c' h
          cases c' with
          | lst xs => obtain ⟨ys, q, _⟩ := cr; rw [e2] at q; cases q
          | rd xs => obtain ⟨⟨_, _, q⟩, _⟩ := cr; rw [e2] at q; cases q
          | ft xs => obtain ⟨_, _, q, _⟩ := cr; rw [e2] at q; cases q
          | dk xs => obtain ⟨ys, q, _⟩ := cr; rw [e2] at q; cases q
          | dt xs => obtain ⟨ys, q, _⟩ := cr; rw [e2] at q; cases q
          | ins C dx fs => obtain ⟨ys, q, _⟩ := cr; rw [e2] at q; cases q
          | xd fs => obtain ⟨ys, q, _⟩ := cr; rw [e2] at q; cases q
          | clo _ _ _ => cases hm
          | nfn _ => cases hm
        rw [upd_ne n2]
        exact e2
  tabs := fun p hp => by
    obtain ⟨ps, h1, h2, h3⟩ := r.tabs p hp
    obtain ⟨o', z, _, _, z3⟩ := (r.cell a c' h).there
    have n1 : p.1 ≠ a := by
      intro e; rw [e, z] at h1; exact z3 ps (Option.some.inj h1)
    refine ⟨ps, by rw [upd_ne n1]; exact h1, h2, fun pos cv hc => ?_⟩
    obtain ⟨c0, e1, e2⟩ := h3 pos cv hc
    refine ⟨c0, e1, ?_⟩
    have n2 : c0 ≠ a := by
      intro e; rw [e, z] at e2
      have e3 := Option.some.inj e2
      subst e3
      cases c' with
      | lst xs => obtain ⟨ys, q, _⟩ := r.cell a _ h; rw [z] at q; cases q
      | rd xs => obtain ⟨⟨_, _, q⟩, _⟩ := r.cell a _ h; rw [z] at q; cases q
      | ft xs => obtain ⟨_, _, q, _⟩ := r.cell a _ h; rw [z] at q; cases q
      | dk xs => obtain ⟨ys, q, _⟩ := r.cell a _ h; rw [z] at q; cases q
      | dt xs => obtain ⟨ys, q, _⟩ := r.cell a _ h; rw [z] at q; cases q
      | ins C dx fs => obtain ⟨ys, q, _⟩ := r.cell a _ h; rw [z] at q; cases q
      | xd fs => obtain ⟨ys, q, _⟩ := r.cell a _ h; rw [z] at q; cases q
      | clo _ _ _ => cases hm
      | nfn _ => cases hm
    rw [upd_ne n2]
    exact e2
end
end A3

set_option Elab.async false
set_option linter.all false
set_option maxRecDepth 100000
set_option maxHeartbeats 4000000
namespace A3
open PySem PySem.Spec PyProof.Rows L2

/-! ### abstract readings -/
/-- an exception: its class, its own fields (none: no own dict) -/
structure Exn where
  C : Addr
  fs : Option (List (Str × Val)) := none
abbrev AX := Exn → Store → Prop
abbrev AK := Val → Store → Prop
abbrev AE := AX → AEnv → Store → AK → Prop
abbrev AT := AX → AEnv → Store → (Bool → Store → Prop) → Prop
abbrev AA := AX → AEnv → Store → (List Val → Store → Prop) → Prop
structure AEnds where
  nx : AEnv → Store → Prop
  rt : AK
  bk : AEnv → Store → Prop := fun _ _ => False
  ct : AEnv → Store → Prop := fun _ _ => False
  ex : Exn → AEnv → Store → Prop := fun _ _ _ => False
abbrev AS := AEnds → AEnv → Store → Prop
abbrev AEnds.xe (D : AEnds) (es : AEnv) : AX := fun x S => D.ex x es S

def awipe (es : AEnv) : List Nat → AEnv
  | [] => es
  | v :: vs => (awipe es vs).set v none
theorem ERep.wipe {K : PySem.W.Frag} {H : Hp} {es : AEnv} {σ : St} (r : ERep K H es σ) : ∀ vs : List Nat, ERep K H (awipe es vs) (wipe σ vs)
  | [] => r
  | v :: vs => (ERep.wipe r vs).del v

def DctRep (K : PySem.W.Frag) (H : Hp) : Option (List (Str × Val)) → Option Addr → Prop
  | none, d => d = none
  | some fs, d => ∃ dd ys, d = some dd ∧ H dd = some (.xd ys) ∧ PReps K H fs ys
def XRep (K : PySem.W.Frag) (T : Tb) (W : WX) (H : Hp) (E : AX) (σ : St) : Prop :=
  ∀ x S', E x S' → ∀ H' d, TupX K H H' → SRep K T S' H' → DctRep K H' x.fs d → W (.ref x.C) d σ H'
theorem XRep.ext {K : PySem.W.Frag} {T : Tb} {W : WX} {H H1 : Hp} {E : AX} {σ : St} (r : XRep K T W H E σ) (t : TupX K H H1) : XRep K T W H1 E σ := fun x S' h H' d t' s' q => r x S' h H' d (t.trans t') s' q

def lowE (K : PySem.W.Frag) (T : Tb) (W : WX) (a : AE) : TE := fun σ H Q => ∃ (es : AEnv) (S : Store) (E : AX) (R : AK), ERep K H es σ ∧ SRep K T S H ∧ XRep K T W H E σ ∧ a E es S R ∧
  ∀ v S', R v S' → ∀ H' v', TupX K H H' → SRep K T S' H' → VRep K H' v v' → Q v' H'
def lowT (K : PySem.W.Frag) (T : Tb) (W : WX) (a : AT) : TT := fun σ H Q => ∃ (es : AEnv) (S : Store) (E : AX) (R : Bool → Store → Prop), ERep K H es σ ∧ SRep K T S H ∧ XRep K T W H E σ ∧ a E es S R ∧
  ∀ v S', R v S' → ∀ H', TupX K H H' → SRep K T S' H' → Q v H'
def lowA (K : PySem.W.Frag) (T : Tb) (W : WX) (a : AA) : TA := fun σ H Q => ∃ (es : AEnv) (S : Store) (E : AX) (R : List Val → Store → Prop), ERep K H es σ ∧ SRep K T S H ∧ XRep K T W H E σ ∧ a E es S R ∧
  ∀ v S', R v S' → ∀ H' v', TupX K H H' → SRep K T S' H' → VReps K H' v v' → Q v' H'
structure DRep (K : PySem.W.Frag) (T : Tb) (W : WX) (H : Hp) (Da : AEnds) (D : Ends) : Prop where
  nx : ∀ es' S', Da.nx es' S' → ∀ σ' H', TupX K H H' → ERep K H' es' σ' → SRep K T S' H' → D.nx σ' H'
  rt : ∀ v S', Da.rt v S' → ∀ H' v', TupX K H H' → SRep K T S' H' → VRep K H' v v' → D.rt v' H'
  bk : ∀ es' S', Da.bk es' S' → ∀ σ' H', TupX K H H' → ERep K H' es' σ' → SRep K T S' H' → D.bk σ' H'
  ct : ∀ es' S', Da.ct es' S' → ∀ σ' H', TupX K H H' → ERep K H' es' σ' → SRep K T S' H' → D.ct σ' H'
  ex : ∀ x es' S', Da.ex x es' S' → ∀ σ' H' d, TupX K H H' → ERep K H' es' σ' → SRep K T S' H' → DctRep K H' x.fs d → W (.ref x.C) d σ' H'
def lowS (K : PySem.W.Frag) (T : Tb) (W : WX) (a : AS) : TS := fun D σ H => ∃ (es : AEnv) (S : Store) (Da : AEnds), ERep K H es σ ∧ SRep K T S H ∧ a Da es S ∧ DRep K T W H Da D
section
variable {K : PySem.W.Frag} {T : Tb} {W : WX} {H H1 : Hp} {Da : AEnds} {D : Ends}
theorem DRep.ext (r : DRep K T W H Da D) (t : TupX K H H1) : DRep K T W H1 Da D where
  nx := fun es' S' h σ' H' t' => r.nx es' S' h σ' H' (t.trans t')
  rt := fun v S' h H' v' t' => r.rt v S' h H' v' (t.trans t')
  bk := fun es' S' h σ' H' t' => r.bk es' S' h σ' H' (t.trans t')
  ct := fun es' S' h σ' H' t' => r.ct es' S' h σ' H' (t.trans t')
  ex := fun x es' S' h σ' H' d t' => r.ex x es' S' h σ' H' d (t.trans t')
theorem DRep.xe (r : DRep K T W H Da D) {es : AEnv} {σ : St} (er : ERep K H es σ) : XRep K T W H (Da.xe es) σ := fun x S' h H' d t' s' q => r.ex x es S' h σ H' d t' (er.ext t') s' q
end

/-! ### the judgements -/
structure IE (X : Cx) (T : Tb) (W : WX) (e : Expr) (a : AE) : Prop where
  r : PE X e (lowE X.K T W a)
structure IT (X : Cx) (T : Tb) (W : WX) (e : Expr) (a : AT) : Prop where
  r : PT X e (lowT X.K T W a)
structure IW (X : Cx) (T : Tb) (W : WX) (e : Expr) (a : AT) : Prop where
  r : PW X e (lowT X.K T W a)
structure IA (X : Cx) (T : Tb) (W : WX) (es : List Expr) (a : AA) : Prop where
  r : PA X es (lowA X.K T W a)
structure IS (X : Cx) (T : Tb) (W : WX) (s : Stmt) (a : AS) : Prop where
  r : PS X s (lowS X.K T W a)
structure ISs (X : Cx) (T : Tb) (W : WX) (s : List Stmt) (a : AS) : Prop where
  r : PSs X s (lowS X.K T W a)
theorem pe_mono {X : Cx} {e : Expr} {t t' : TE} (h : PE X e t) (k : ∀ σ H Q, t' σ H Q → t σ H Q) : PE X e t' := ⟨fun pins s σ H Q I q => h.run pins s σ H Q I (k σ H Q q)⟩
theorem pt_mono {X : Cx} {e : Expr} {t t' : TT} (h : PT X e t) (k : ∀ σ H Q, t' σ H Q → t σ H Q) : PT X e t' := ⟨fun pins s σ H Q I q => h.run pins s σ H Q I (k σ H Q q)⟩
theorem pw_mono {X : Cx} {e : Expr} {t t' : TT} (h : PW X e t) (k : ∀ σ H Q, t' σ H Q → t σ H Q) : PW X e t' := ⟨fun w pins s σ H Q I q => h.run w pins s σ H Q I (k σ H Q q)⟩
theorem pa_mono {X : Cx} {e : List Expr} {t t' : TA} (h : PA X e t) (k : ∀ σ H Q, t' σ H Q → t σ H Q) : PA X e t' := ⟨fun pos pins s σ H Q I q => h.run pos pins s σ H Q I (k σ H Q q)⟩
theorem ps_mono {X : Cx} {e : Stmt} {t t' : TS} (h : PS X e t) (k : ∀ D σ H, t' D σ H → t D σ H) : PS X e t' := ⟨fun pins s σ H D I q => h.run pins s σ H D I (k D σ H q)⟩
theorem pss_mono {X : Cx} {e : List Stmt} {t t' : TS} (h : PSs X e t) (k : ∀ D σ H, t' D σ H → t D σ H) : PSs X e t' := ⟨fun pins s σ H D I q => h.run pins s σ H D I (k D σ H q)⟩

/-! ### names and constants -/
def aVar (i : Nat) : AE := fun _ es S R => match es[i]? with
  | some (some v) => R v S
  | _ => False
def aC (v : Val) : AE := fun _ _ S R => R v S
section
variable {X : Cx} {T : Tb} {W : WX} {pos : Pos}
theorem ie_var (i : Nat) {x : Str} (h : PE X (.Name x pos) (tVar i)) : IE X T W (.Name x pos) (aVar i) := ⟨pe_mono h fun σ H Q ⟨es, S, E, R, er, sr, _, q, k⟩ => by
  unfold aVar at q
  split at q
  · rename_i v e
    obtain ⟨y, e2, r⟩ := er.get i v e
    exact ⟨y, e2, k _ _ q H y (.refl H) sr r⟩
  · exact q.elim⟩
/-- a name of the def -/
theorem iv (i : Nat) {x : Str} (hN : X.N[i]? = some x := by rfl) (hv : Vis X.env.scope x := by first | exact Or.inl rfl | exact Or.inr (Or.inl rfl) | exact Or.inr (Or.inr rfl)) (hd : (x == ("__debug__" : Str)) = false := by decide)
    (hcd : (x == ("__classdict__" : Str)) = false := by decide) : IE X T W (.Name x pos) (aVar i) := ie_var i (pe_var hN hv hd hcd)
theorem ie_c {e : Expr} {v : V} {a : Val} (h : PE X e (tC v)) (r : ∀ H, VRep X.K H a v) : IE X T W e (aC a) := ⟨pe_mono h fun σ H Q ⟨es, S, E, R, er, sr, _, q, k⟩ => k _ _ q H v (.refl H) sr (r H)⟩
theorem ie_int {i j} : IE X T W (.Constant (.int i) j pos) (aC (.int i)) := ie_c pe_int fun _ => .int i
theorem ie_bl {b j} : IE X T W (.Constant (.bool b) j pos) (aC (.bl b)) := ie_c pe_bl fun _ => .bl b
theorem ie_non {j} : IE X T W (.Constant .none j pos) (aC .non) := ie_c pe_non fun _ => .non
theorem ie_str {x j} : IE X T W (.Constant (.str x) j pos) (aC (.str x)) := ie_c pe_str fun _ => .str x
/-- a name of the module: an int, a text, a def, a class -/
theorem ie_gint {x : Str} {i : Int} (hg : Gl X x) (hm : ∃ t, X.mg x = some (.int i t)) (hd : (x == ("__debug__" : Str)) = false := by decide) : IE X T W (.Name x pos) (aC (.int i)) := by
  obtain ⟨t, e⟩ := hm
  exact ie_c (pe_glob (v := .int i) hg e ⟨t, rfl⟩ hd) fun _ => .int i
theorem ie_gstr {x z : Str} (hg : Gl X x) (hm : ∃ t, X.mg x = some (.str z t)) (hd : (x == ("__debug__" : Str)) = false := by decide) : IE X T W (.Name x pos) (aC (.str z)) := by
  obtain ⟨t, e⟩ := hm
  exact ie_c (pe_glob (v := .str z) hg e ⟨t, rfl⟩ hd) fun _ => .str z
theorem ie_gref {x : Str} {f : Addr} (hg : Gl X x) (hm : X.mg x = some (.ref f)) (hd : (x == ("__debug__" : Str)) = false := by decide) : IE X T W (.Name x pos) (aC (.ref f)) := ie_c (pe_glob (v := .ref f) hg hm rfl hd) fun _ => .ref f
end

/-! ### two-place operations by values -/
abbrev A2 := Val → Val → Store → AK → Prop
def low2 (K : PySem.W.Frag) (T : Tb) (r : A2) : R2 := fun x' y' H Q => ∃ x y S R, VRep K H x x' ∧ VRep K H y y' ∧ SRep K T S H ∧ r x y S R ∧ ∀ v S', R v S' → ∀ H' v', TupX K H H' → SRep K T S' H' → VRep K H' v v' → Q v' H'
def aOp (r : A2) (a b : AE) : AE := fun E es S R => a E es S fun x S1 => b E es S1 fun y S2 => r x y S2 R
section
variable {X : Cx} {T : Tb} {W : WX} {a b c : Expr} {aa ab ac : AE} {pos : Pos}
theorem low_two {K : PySem.W.Frag} {r : A2} {σ : St} {H : Hp} {Q : VK} (h : lowE K T W (aOp r aa ab) σ H Q) : lowE K T W aa σ H fun x' H1 => lowE K T W ab σ H1 fun y' H2 => low2 K T r x' y' H2 Q := by
  obtain ⟨es, S, E, R, er, sr, xr, h, k⟩ := h
  exact ⟨es, S, E, _, er, sr, xr, h, fun x S1 h1 H1 x' t1 s1 v1 => ⟨es, S1, E, _, er.ext t1, s1, xr.ext t1, h1, fun y S2 h2 H2 y' t2 s2 v2 =>
    ⟨x, y, S2, R, v1.ext t2, v2, s2, h2, fun v S' hv H' v' t s vr => k v S' hv H' v' ((t1.trans t2).trans t) s vr⟩⟩⟩
theorem ie_op {op : Operator} {r : A2} (ho : OpR X (binaryOp op) (low2 X.K T r)) (ha : IE X T W a aa) (hb : IE X T W b ab) : IE X T W (.BinOp a op b pos) (aOp r aa ab) :=
  ⟨pe_mono (pe_op ho ha.r hb.r) fun σ H Q h => low_two h⟩
theorem ie_cmp {op : CmpOp} {r : A2} (ho : OpR X (compareOp op) (low2 X.K T r)) (ha : IE X T W a aa) (hb : IE X T W b ab) (hm : behindInMarks op b = false) : IE X T W (.Compare a [op] [b] pos) (aOp r aa ab) :=
  ⟨pe_mono (pe_cmpR ho ha.r hb.r hm) fun σ H Q h => low_two h⟩
/-- a value's test: it is a bool -/
def aTest (a : AE) : AT := fun E es S R => a E es S fun x S1 => match x with
  | .bl b => R b S1
  | _ => False
theorem low_test {K : PySem.W.Frag} {σ : St} {H : Hp} {Q : Bool → Hp → Prop} (h : lowT K T W (aTest aa) σ H Q) : lowE K T W aa σ H fun x H1 => ∃ k, x = .bl k ∧ Q k H1 := by
  obtain ⟨es, S, E, R, er, sr, xr, h, k⟩ := h
  refine ⟨es, S, E, _, er, sr, xr, h, fun x S1 h1 H1 x' t1 s1 v1 => ?_⟩
  cases v1 with
  | bl b => exact ⟨b, rfl, k _ _ h1 H1 t1 s1⟩
  | non => exact h1.elim
  | int i => exact h1.elim
  | str i => exact h1.elim
  | ref i => exact h1.elim
  | tup _ _ => exact h1.elim
theorem it_val {e : Expr} (h : IE X T W e aa) (he : ∀ whole, isTrue e X.env whole = (do let v ← whole; standAt e.pos; holding [v] (truthy v)) := by intro _; rfl) : IT X T W e (aTest aa) :=
  ⟨pt_mono (pt_val h.r he) fun σ H Q h => low_test h⟩
theorem it_cmp {op : CmpOp} {r : A2} (ho : OpR X (compareOp op) (low2 X.K T r)) (ha : IE X T W a aa) (hb : IE X T W b ab) (hm : behindInMarks op b = false) : IT X T W (.Compare a [op] [b] pos) (aTest (aOp r aa ab)) :=
  ⟨pt_mono (pt_cmpR ho ha.r hb.r hm) fun σ H Q h => by
    obtain ⟨es, S, E, R, er, sr, xr, h, k⟩ := h
    refine low_two ⟨es, S, E, _, er, sr, xr, h, fun x S1 h1 H1 x' t1 s1 v1 => ?_⟩
    cases v1 with
    | bl b => exact ⟨b, rfl, k _ _ h1 H1 t1 s1⟩
    | non => exact h1.elim
    | int i => exact h1.elim
    | str i => exact h1.elim
    | ref i => exact h1.elim
    | tup _ _ => exact h1.elim⟩
/-- a op1 b op2 c -/
def aChain (r r' : A2) (a b c : AE) : AE := fun E es S R => a E es S fun x S1 => b E es S1 fun y S2 => r x y S2 fun z S3 => match z with
  | .bl true => c E es S3 fun u S4 => r' y u S4 R
  | .bl false => R (.bl false) S3
  | _ => False
theorem low_chain {K : PySem.W.Frag} {r r' : A2} {σ : St} {H : Hp} {Q : VK} (h : lowE K T W (aChain r r' aa ab ac) σ H Q) : tChain (low2 K T r) (low2 K T r') (lowE K T W aa) (lowE K T W ab) (lowE K T W ac) σ H Q := by
  obtain ⟨es, S, E, R, er, sr, xr, h, k⟩ := h
  refine ⟨es, S, E, _, er, sr, xr, h, fun x S1 h1 H1 x' t1 s1 v1 => ⟨es, S1, E, _, er.ext t1, s1, xr.ext t1, h1, fun y S2 h2 H2 y' t2 s2 v2 =>
    ⟨x, y, S2, _, v1.ext t2, v2, s2, h2, fun v S3 hv H3 v' t3 s3 vr => ?_⟩⟩⟩
  have tt := (t1.trans t2).trans t3
  cases vr with
  | bl b =>
    refine ⟨b, rfl, ?_⟩
    cases b with
    | true =>
      rw [if_pos rfl]
      exact ⟨es, S3, E, _, er.ext tt, s3, xr.ext tt, hv, fun u S4 h4 H4 u' t4 s4 v4 => ⟨y, u, S4, R, v2.ext (t3.trans t4), v4, s4, h4, fun v S' hv H' v' t s vr => k v S' hv H' v' ((tt.trans t4).trans t) s vr⟩⟩
    | false =>
      rw [if_neg Bool.false_ne_true]
      exact k _ _ hv H3 _ tt s3 (.bl false)
  | non => exact hv.elim
  | int i => exact hv.elim
  | str i => exact hv.elim
  | ref i => exact hv.elim
  | tup _ _ => exact hv.elim
theorem ie_chain {op op' : CmpOp} {r r' : A2} (ho : OpR X (compareOp op) (low2 X.K T r)) (ho' : OpR X (compareOp op') (low2 X.K T r')) (ha : IE X T W a aa) (hb : IE X T W b ab) (hc : IE X T W c ac)
    (hm : lastMarks [op, op'] [b, c] = false := by with_unfolding_all rfl) : IE X T W (.Compare a [op, op'] [b, c] pos) (aChain r r' aa ab ac) := ⟨pe_mono (pe_chain ho ho' ha.r hb.r hc.r hm) fun σ H Q h => low_chain h⟩
theorem it_chain {op op' : CmpOp} {r r' : A2} (ho : OpR X (compareOp op) (low2 X.K T r)) (ho' : OpR X (compareOp op') (low2 X.K T r')) (ha : IE X T W a aa) (hb : IE X T W b ab) (hc : IE X T W c ac)
    (hm : lastMarks [op, op'] [b, c] = false := by with_unfolding_all rfl) : IT X T W (.Compare a [op, op'] [b, c] pos) (aTest (aChain r r' aa ab ac)) := ⟨pt_mono (pt_chain ho ho' ha.r hb.r hc.r hm) fun σ H Q h => by
    obtain ⟨es, S, E, R, er, sr, xr, h, k⟩ := h
    refine low_chain ⟨es, S, E, _, er, sr, xr, h, fun x S1 h1 H1 x' t1 s1 v1 => ?_⟩
    cases v1 with
    | bl b => exact ⟨b, rfl, k _ _ h1 H1 t1 s1⟩
    | non => exact h1.elim
    | int i => exact h1.elim
    | str i => exact h1.elim
    | ref i => exact h1.elim
    | tup _ _ => exact h1.elim⟩
end
/-! ### and, or, not, if -/
def aAnd (t u : AT) : AT := fun E es S R => t E es S fun c S1 => if c = true then u E es S1 R else R false S1
def aOr (t u : AT) : AT := fun E es S R => t E es S fun c S1 => if c = true then R true S1 else u E es S1 R
def aNot (t : AT) : AT := fun E es S R => t E es S fun c S1 => R (!c) S1
/-- values: bools -/
def aAndV (a b : AE) : AE := fun E es S R => a E es S fun x S1 => match x with
  | .bl true => b E es S1 R
  | .bl false => R (.bl false) S1
  | _ => False
def aOrV (a b : AE) : AE := fun E es S R => a E es S fun x S1 => match x with
  | .bl true => R (.bl true) S1
  | .bl false => b E es S1 R
  | _ => False
def aNotV (a : AE) : AE := fun E es S R => a E es S fun x S1 => match x with
  | .bl c => R (.bl (!c)) S1
  | _ => False
def aIf (t : AT) (a b : AE) : AE := fun E es S R => t E es S fun c S1 => if c = true then a E es S1 R else b E es S1 R
section
variable {X : Cx} {T : Tb} {W : WX} {a b c : Expr} {aa ab ac : AE} {at_ bt : AT} {pos : Pos} {rest : List Expr}
theorem iw_and1 (h : IT X T W a at_) : IW X T W (.BoolOp .And [a] pos) at_ := ⟨pw_and1 h.r⟩
theorem iw_or1 (h : IT X T W a at_) : IW X T W (.BoolOp .Or [a] pos) at_ := ⟨pw_or1 h.r⟩
theorem iw_and (h : IT X T W a at_) (h2 : IW X T W (.BoolOp .And (b :: rest) pos) bt) : IW X T W (.BoolOp .And (a :: b :: rest) pos) (aAnd at_ bt) := ⟨pw_mono (pw_and h.r h2.r) fun σ H Q h => by
  obtain ⟨es, S, E, R, er, sr, xr, h, k⟩ := h
  refine ⟨es, S, E, _, er, sr, xr, h, fun c S1 h1 H1 t1 s1 => ?_⟩
  cases c with
  | true => exact ⟨es, S1, E, R, er.ext t1, s1, xr.ext t1, h1, fun v S' hv H' t s => k v S' hv H' (t1.trans t) s⟩
  | false => exact k _ _ h1 H1 t1 s1⟩
theorem iw_or (h : IT X T W a at_) (h2 : IW X T W (.BoolOp .Or (b :: rest) pos) bt) : IW X T W (.BoolOp .Or (a :: b :: rest) pos) (aOr at_ bt) := ⟨pw_mono (pw_or h.r h2.r) fun σ H Q h => by
  obtain ⟨es, S, E, R, er, sr, xr, h, k⟩ := h
  refine ⟨es, S, E, _, er, sr, xr, h, fun c S1 h1 H1 t1 s1 => ?_⟩
  cases c with
  | true => exact k _ _ h1 H1 t1 s1
  | false => exact ⟨es, S1, E, R, er.ext t1, s1, xr.ext t1, h1, fun v S' hv H' t s => k v S' hv H' (t1.trans t) s⟩⟩
theorem it_w (h : IW X T W a at_) : IT X T W a at_ := ⟨h.r.pt⟩
theorem it_not (h : IT X T W a at_) : IT X T W (.UnaryOp .Not a pos) (aNot at_) := ⟨pt_mono (pt_not h.r) fun σ H Q h => by
  obtain ⟨es, S, E, R, er, sr, xr, h, k⟩ := h
  exact ⟨es, S, E, _, er, sr, xr, h, fun c S1 h1 H1 t1 s1 => k _ _ h1 H1 t1 s1⟩⟩
theorem ie_one {op} (h : IE X T W a aa) : IE X T W (.BoolOp op [a] pos) aa := ⟨pe_one h.r⟩
theorem ie_and (ha : IE X T W a aa) (hb : IE X T W (.BoolOp .And (b :: rest) pos) ab) : IE X T W (.BoolOp .And (a :: b :: rest) pos) (aAndV aa ab) := ⟨pe_mono (pe_and ha.r hb.r) fun σ H Q h => by
  obtain ⟨es, S, E, R, er, sr, xr, h, k⟩ := h
  refine ⟨es, S, E, _, er, sr, xr, h, fun x S1 h1 H1 x' t1 s1 v1 => ?_⟩
  cases v1 with
  | bl b =>
    refine ⟨b, rfl, ?_⟩
    cases b with
    | true => exact ⟨es, S1, E, R, er.ext t1, s1, xr.ext t1, h1, fun v S' hv H' v' t s => k v S' hv H' v' (t1.trans t) s⟩
    | false => exact k _ _ h1 H1 _ t1 s1 (.bl false)
  | non => exact h1.elim
  | int i => exact h1.elim
  | str i => exact h1.elim
  | ref i => exact h1.elim
  | tup _ _ => exact h1.elim⟩
theorem ie_or (ha : IE X T W a aa) (hb : IE X T W (.BoolOp .Or (b :: rest) pos) ab) : IE X T W (.BoolOp .Or (a :: b :: rest) pos) (aOrV aa ab) := ⟨pe_mono (pe_or ha.r hb.r) fun σ H Q h => by
  obtain ⟨es, S, E, R, er, sr, xr, h, k⟩ := h
  refine ⟨es, S, E, _, er, sr, xr, h, fun x S1 h1 H1 x' t1 s1 v1 => ?_⟩
  cases v1 with
  | bl b =>
    refine ⟨b, rfl, ?_⟩
    cases b with
    | true => exact k _ _ h1 H1 _ t1 s1 (.bl true)
    | false => exact ⟨es, S1, E, R, er.ext t1, s1, xr.ext t1, h1, fun v S' hv H' v' t s => k v S' hv H' v' (t1.trans t) s⟩
  | non => exact h1.elim
  | int i => exact h1.elim
  | str i => exact h1.elim
  | ref i => exact h1.elim
  | tup _ _ => exact h1.elim⟩
theorem ie_not (ha : IE X T W a aa) : IE X T W (.UnaryOp .Not a pos) (aNotV aa) := ⟨pe_mono (pe_not ha.r) fun σ H Q h => by
  obtain ⟨es, S, E, R, er, sr, xr, h, k⟩ := h
  refine ⟨es, S, E, _, er, sr, xr, h, fun x S1 h1 H1 x' t1 s1 v1 => ?_⟩
  cases v1 with
  | bl b => exact ⟨b, rfl, k _ _ h1 H1 _ t1 s1 (.bl _)⟩
  | non => exact h1.elim
  | int i => exact h1.elim
  | str i => exact h1.elim
  | ref i => exact h1.elim
  | tup _ _ => exact h1.elim⟩
theorem ie_if (hc : IT X T W c at_) (ha : IE X T W a aa) (hb : IE X T W b ab) : IE X T W (.IfExp c a b pos) (aIf at_ aa ab) := ⟨pe_mono (pe_ifExp hc.r ha.r hb.r) fun σ H Q h => by
  obtain ⟨es, S, E, R, er, sr, xr, h, k⟩ := h
  refine ⟨es, S, E, _, er, sr, xr, h, fun c S1 h1 H1 t1 s1 => ?_⟩
  cases c with
  | true => exact ⟨es, S1, E, R, er.ext t1, s1, xr.ext t1, h1, fun v S' hv H' v' t s => k v S' hv H' v' (t1.trans t) s⟩
  | false => exact ⟨es, S1, E, R, er.ext t1, s1, xr.ext t1, h1, fun v S' hv H' v' t s => k v S' hv H' v' (t1.trans t) s⟩⟩
end

/-! ### argument lists, displays -/
def aNil : AA := fun _ _ S R => R [] S
def aCons (a : AE) (r : AA) : AA := fun E es S R => a E es S fun x S1 => r E es S1 fun xs S2 => R (x :: xs) S2
def aTup (t : AA) : AE := fun E es S R => t E es S fun xs S1 => xs.length ≤ sizeLine ∧ R (.tup xs) S1
def aLst (t : AA) : AE := fun E es S R => t E es S fun xs S1 => xs.length ≤ sizeLine ∧ ∀ p, S1 p = none → R (.ref p) (ups S1 p (.lst xs))
section
variable {X : Cx} {T : Tb} {W : WX} {e : Expr} {es : List Expr} {aa : AE} {t : AA} {pos : Pos}
theorem ia_nil : IA X T W [] aNil := ⟨pa_mono pa_nil fun σ H Q h => by
  obtain ⟨es, S, E, R, er, sr, xr, h, k⟩ := h
  exact k _ _ h H _ (.refl H) sr .nil⟩
theorem ia_cons (ha : IE X T W e aa) (hr : IA X T W es t) (hs : starEach (e :: es) X.env = (false, eval e X.env) :: starEach es X.env := by rfl) : IA X T W (e :: es) (aCons aa t) := ⟨pa_mono (pa_cons ha.r hr.r hs) fun σ H Q h => by
  obtain ⟨es, S, E, R, er, sr, xr, h, k⟩ := h
  exact ⟨es, S, E, _, er, sr, xr, h, fun x S1 h1 H1 x' t1 s1 v1 => ⟨es, S1, E, _, er.ext t1, s1, xr.ext t1, h1, fun xs S2 h2 H2 xs' t2 s2 v2 => k _ _ h2 H2 _ (t1.trans t2) s2 (.cons (v1.ext t2) v2)⟩⟩⟩
theorem ie_tup {x1} (h : IA X T W es t) : IE X T W (.Tuple es x1 pos) (aTup t) := ⟨pe_mono (pe_tup h.r) fun σ H Q h => by
  obtain ⟨es, S, E, R, er, sr, xr, h, k⟩ := h
  refine ⟨es, S, E, _, er, sr, xr, h, fun xs S1 h1 H1 xs' t1 s1 v1 => ⟨v1.length ▸ h1.1, fun p hp => ?_⟩⟩
  have t2 : TupX X.K H1 (upd H1 p (.tup xs')) := .upd (noTup_none hp)
  exact k _ _ h1.2 _ _ (t1.trans t2) (s1.laid hp) (.tup upd_same (v1.ext t2))⟩
theorem ie_lst (h : IA X T W es t) : IE X T W (.List es pos) (aLst t) := ⟨pe_mono (pe_lst h.r) fun σ H Q h => by
  obtain ⟨es, S, E, R, er, sr, xr, h, k⟩ := h
  refine ⟨es, S, E, _, er, sr, xr, h, fun xs S1 h1 H1 xs' t1 s1 v1 => ⟨v1.length ▸ h1.1, fun p hp => ?_⟩⟩
  have t2 : TupX X.K H1 (upd H1 p (.lst xs')) := .upd (noTup_none hp)
  exact k _ _ (h1.2 p (s1.free hp)) _ _ (t1.trans t2) (s1.new hp ⟨xs', upd_same, v1.ext t2⟩) (.ref p)⟩
end
end A3

set_option Elab.async false
set_option linter.all false
set_option maxRecDepth 100000
set_option maxHeartbeats 4000000
namespace A3
open PySem PySem.Spec PyProof.Rows L2

/-! ### blocks and small statements -/
def sNext : AS := fun D es S => D.nx es S
def sSeq (t u : AS) : AS := fun D es S => t { D with nx := u D } es S
def sBreak : AS := fun D es S => D.bk es S
def sCont : AS := fun D es S => D.ct es S
def sDrop (a : AE) : AS := fun D es S => a (D.xe es) es S fun _ S1 => D.nx es S1
def sRet (a : AE) : AS := fun D es S => a (D.xe es) es S D.rt
def sRetN : AS := fun D _ S => D.rt .non S
def sIf (c : AT) (t u : AS) : AS := fun D es S => c (D.xe es) es S fun b S1 => if b = true then t D es S1 else u D es S1
section
variable {X : Cx} {T : Tb} {W : WX} {st : Stmt} {rest : List Stmt} {t u : AS} {e : Expr} {aa : AE} {pos : Pos}
theorem iss_nil : ISs X T W [] sNext := ⟨pss_mono pss_nil fun D σ H h => by
  obtain ⟨es, S, Da, er, sr, q, dr⟩ := h
  exact dr.nx _ _ q _ _ (.refl H) er sr⟩
theorem iss_cons (h1 : IS X T W st t) (h2 : ISs X T W rest u) : ISs X T W (st :: rest) (sSeq t u) := ⟨pss_mono (pss_cons h1.r h2.r) fun D σ H h => by
  obtain ⟨es, S, Da, er, sr, q, dr⟩ := h
  exact ⟨es, S, _, er, sr, q, { dr with nx := fun es' S' h' σ' H' t' er' sr' => ⟨es', S', Da, er', sr', h', dr.ext t'⟩ }⟩⟩
theorem iss_one (h1 : IS X T W st t) : ISs X T W [st] t := ⟨pss_one h1.r⟩
theorem is_pass : IS X T W (.Pass pos) sNext := ⟨ps_mono ps_pass fun D σ H h => by
  obtain ⟨es, S, Da, er, sr, q, dr⟩ := h
  exact dr.nx _ _ q _ _ (.refl H) er sr⟩
theorem is_break : IS X T W (.Break pos) sBreak := ⟨ps_mono ps_break fun D σ H h => by
  obtain ⟨es, S, Da, er, sr, q, dr⟩ := h
  exact dr.bk _ _ q _ _ (.refl H) er sr⟩
theorem is_continue : IS X T W (.Continue pos) sCont := ⟨ps_mono ps_continue fun D σ H h => by
  obtain ⟨es, S, Da, er, sr, q, dr⟩ := h
  exact dr.ct _ _ q _ _ (.refl H) er sr⟩
theorem is_expr (he : IE X T W e aa) (hs : swapsWith e none pos.line X.env = pure false := by rfl) : IS X T W (.Expr e pos) (sDrop aa) := ⟨ps_mono (ps_expr he.r hs) fun D σ H h => by
  obtain ⟨es, S, Da, er, sr, q, dr⟩ := h
  exact ⟨es, S, _, _, er, sr, dr.xe er, q, fun v S' hv H' v' t s _ => dr.nx _ _ hv _ _ t (er.ext t) s⟩⟩
theorem is_ret (he : IE X T W e aa) : IS X T W (.Return (some e) pos) (sRet aa) := ⟨ps_mono (ps_ret he.r) fun D σ H h => by
  obtain ⟨es, S, Da, er, sr, q, dr⟩ := h
  exact ⟨es, S, _, _, er, sr, dr.xe er, q, fun v S' hv H' v' t s r => dr.rt _ _ hv _ _ t s r⟩⟩
theorem is_retN : IS X T W (.Return none pos) sRetN := ⟨ps_mono ps_retN fun D σ H h => by
  obtain ⟨es, S, Da, er, sr, q, dr⟩ := h
  exact dr.rt _ _ q _ _ (.refl H) sr .non⟩
theorem is_if {c : Expr} {a b : List Stmt} {tc : AT} (hc : IT X T W c tc) (ha : ISs X T W a t) (hb : ISs X T W b u) : IS X T W (.If c a b pos) (sIf tc t u) := ⟨ps_mono (ps_if hc.r ha.r hb.r) fun D σ H h => by
  obtain ⟨es, S, Da, er, sr, q, dr⟩ := h
  refine ⟨es, S, _, _, er, sr, dr.xe er, q, fun c S1 h1 H1 t1 s1 => ?_⟩
  cases c with
  | true => exact ⟨es, S1, Da, er.ext t1, s1, h1, dr.ext t1⟩
  | false => exact ⟨es, S1, Da, er.ext t1, s1, h1, dr.ext t1⟩⟩
end

/-! ### targets -/
abbrev AG := AX → Val → AEnv → Store → (AEnv → Store → Prop) → Prop
abbrev AGs := AX → List Val → AEnv → Store → (AEnv → Store → Prop) → Prop
def lowG (K : PySem.W.Frag) (T : Tb) (W : WX) (g : AG) : TG := fun v' σ H Q => ∃ (v : Val) (es : AEnv) (S : Store) (E : AX) (R : AEnv → Store → Prop), VRep K H v v' ∧ ERep K H es σ ∧ SRep K T S H ∧ XRep K T W H E σ ∧ g E v es S R ∧
  ∀ es' S', R es' S' → ∀ σ' H', TupX K H H' → ERep K H' es' σ' → SRep K T S' H' → Q σ' H'
def lowGs (K : PySem.W.Frag) (T : Tb) (W : WX) (g : AGs) : TGs := fun v' σ H Q => ∃ (v : List Val) (es : AEnv) (S : Store) (E : AX) (R : AEnv → Store → Prop), VReps K H v v' ∧ ERep K H es σ ∧ SRep K T S H ∧ (∀ σ', XRep K T W H E σ') ∧ g E v es S R ∧
  ∀ es' S', R es' S' → ∀ σ' H', TupX K H H' → ERep K H' es' σ' → SRep K T S' H' → Q σ' H'
structure IG (X : Cx) (T : Tb) (W : WX) (tg : Expr) (g : AG) : Prop where
  r : PG X tg (lowG X.K T W g)
structure IGs (X : Cx) (T : Tb) (W : WX) (tg : List Expr) (g : AGs) : Prop where
  r : PGs X tg (lowGs X.K T W g)
theorem pg_mono {X : Cx} {e : Expr} {t t' : TG} (h : PG X e t) (k : ∀ v σ H Q, t' v σ H Q → t v σ H Q) : PG X e t' := ⟨fun pins s σ H v u Q I r q => h.run pins s σ H v u Q I r (k v σ H Q q)⟩
theorem pgs_mono {X : Cx} {e : List Expr} {t t' : TGs} (h : PGs X e t) (k : ∀ v σ H Q, t' v σ H Q → t v σ H Q) : PGs X e t' := ⟨fun pins s σ H v u Q I r q => h.run pins s σ H v u Q I r (k v σ H Q q)⟩
def tName (i : Nat) : AG := fun _ v es S R => R (es.set i (some v)) S
def tNilA : AGs := fun _ vs es S R => vs = [] ∧ R es S
/-- no exception on the way: a further target starts afresh -/
def tConsA (g : AG) (r : AGs) : AGs := fun _ vs es S R => match vs with
  | v :: vs => g (fun _ _ => False) v es S fun es1 S1 => r (fun _ _ => False) vs es1 S1 R
  | [] => False
def tTupA (n : Nat) (g : AGs) : AG := fun _ v es S R => match v with
  | .tup xs => xs.length = n ∧ g (fun _ _ => False) xs es S R
  | _ => False
def tLstA (n : Nat) (g : AGs) : AG := fun _ v es S R => match v with
  | .ref a => ∃ xs, (S a = some (.lst xs) ∨ S a = some (.rd xs)) ∧ xs.length = n ∧ g (fun _ _ => False) xs es S R
  | _ => False
theorem xrep0 {K : PySem.W.Frag} {T : Tb} {W : WX} {H : Hp} {σ : St} : XRep K T W H (fun _ _ => False) σ := fun _ _ h => h.elim
theorem CRep.sql {K : PySem.W.Frag} {H : Hp} {a : Addr} {xs : List Val} {S : Store} {T : Tb} (sr : SRep K T S H) (h : S a = some (.lst xs) ∨ S a = some (.rd xs)) : ∃ ys, SqL K H a ys ∧ VReps K H xs ys := by
  rcases h with h | h
  · obtain ⟨ys, e, r⟩ := sr.cell a _ h
    exact ⟨ys, .of e, r⟩
  · obtain ⟨_, ys, e, r⟩ := sr.cell a _ h
    exact ⟨ys, e, r⟩
section
variable {X : Cx} {T : Tb} {W : WX} {pos : Pos}
theorem ig_name {i : Nat} {x : Str} (hN : X.N.Nodup) (hi : X.N[i]? = some x) (hx : Loc X.env.scope x) (hf : X.fn x = true ∨ X.env.scope.names.lookup x = some .local := by first | exact .inl rfl | exact .inr rfl | assumption) : IG X T W (.Name x pos) (tName i) :=
  ⟨pg_mono (pg_name hN hi hx hf) fun v' σ H Q h => by
    obtain ⟨v, es, S, E, R, vr, er, sr, xr, h, k⟩ := h
    exact k _ _ h _ H (.refl H) (er.set vr i) sr⟩
theorem igs_nil : IGs X T W [] tNilA := ⟨pgs_mono pgs_nil fun v' σ H Q h => by
  obtain ⟨v, es, S, E, R, vr, er, sr, xr, ⟨e, h⟩, k⟩ := h
  subst e
  cases vr
  exact ⟨rfl, k _ _ h _ H (.refl H) er sr⟩⟩
theorem igs_cons {e : Expr} {es : List Expr} {g : AG} {r : AGs} (h1 : IG X T W e g) (h2 : IGs X T W es r) (hs : (assignEach (e :: es) X.env).map (·.2) = assign e X.env :: (assignEach es X.env).map (·.2) := by rfl) : IGs X T W (e :: es) (tConsA g r) :=
  ⟨pgs_mono (pgs_cons h1.r h2.r hs) fun v' σ H Q h => by
    obtain ⟨v, es, S, E, R, vr, er, sr, xr, h, k⟩ := h
    cases vr with
    | nil => exact h.elim
    | @cons x y xs ys r1 r2 =>
      refine ⟨y, ys, rfl, x, es, S, _, _, r1, er, sr, xrep0, h, fun es1 S1 h1 σ1 H1 t1 er1 sr1 => ⟨xs, es1, S1, _, _, r2.ext t1, er1, sr1, fun _ => xrep0, h1, fun es' S' hh σ' H' t er sr => k _ _ hh _ _ (t1.trans t) er sr⟩⟩⟩
theorem ig_tup {es : List Expr} {j : Nat} {g : AGs} {n : Nat} (hc : X.calm = true) (h : IGs X T W es g)
    (hn : (assignEach es X.env).length = n := by rfl) (hst : (assignEach es X.env).findIdx? (·.1) = none := by rfl) : IG X T W (.Tuple es j pos) (tTupA n g) := ⟨pg_mono (pg_tup hc h.r hn hst) fun v' σ H Q h => by
    obtain ⟨v, es, S, E, R, vr, er, sr, xr, h, k⟩ := h
    cases vr with
    | tup s r => exact ⟨_, _, rfl, .of s, r.length ▸ h.1, _, es, S, _, _, r, er, sr, fun _ => xrep0, h.2, k⟩
    | _ => exact h.elim⟩
theorem ig_lst {es : List Expr} {j : Nat} {g : AGs} {n : Nat} (hc : X.calm = true) (h : IGs X T W es g)
    (hn : (assignEach es X.env).length = n := by rfl) (hst : (assignEach es X.env).findIdx? (·.1) = none := by rfl) : IG X T W (.Tuple es j pos) (tLstA n g) := ⟨pg_mono (pg_lst hc h.r hn hst) fun v' σ H Q h => by
    obtain ⟨v, es, S, E, R, vr, er, sr, xr, h, k⟩ := h
    cases vr with
    | ref a =>
      obtain ⟨xs, hs, hl, hg⟩ := h
      obtain ⟨ys, sq, r⟩ := CRep.sql sr hs
      exact ⟨a, ys, rfl, sq, r.length ▸ hl, xs, es, S, _, _, r, er, sr, fun _ => xrep0, hg, k⟩
    | _ => exact h.elim⟩
def sAsg (a : AE) (g : AG) : AS := fun D es S => a (D.xe es) es S fun v S1 => g (D.xe es) v es S1 D.nx
theorem is_asg {tg e : Expr} {aa : AE} {g : AG} (he : IE X T W e aa) (hg : IG X T W tg g) (hs : swapsWithSole [tg] e pos.line X.env = pure false := by rfl) (hw : swappedStores [tg] e X.env = pure none := by rfl)
    (h1 : (assignEach [tg] X.env).map (·.2) = [assign tg X.env] := by rfl) : IS X T W (.Assign [tg] e pos) (sAsg aa g) := ⟨ps_mono (ps_asg he.r hg.r hs hw h1) fun D σ H h => by
  obtain ⟨es, S, Da, er, sr, q, dr⟩ := h
  exact ⟨es, S, _, _, er, sr, dr.xe er, q, fun v S1 h1 H1 v' t1 s1 r1 => ⟨v, es, S1, _, _, r1, er.ext t1, s1, (dr.xe er).ext t1, h1, fun es' S' hh σ' H' t er sr => dr.nx _ _ hh _ _ (t1.trans t) er sr⟩⟩⟩
/-- name = value -/
def sSet (i : Nat) (a : AE) : AS := fun D es S => a (D.xe es) es S fun v S1 => D.nx (es.set i (some v)) S1
theorem is_set {i : Nat} {x : Str} {e : Expr} {aa : AE} {pos' : Pos} (hN : X.N.Nodup) (hi : X.N[i]? = some x) (hx : Loc X.env.scope x) (he : IE X T W e aa) (hs : swapsWith e (some (.Name x pos')) pos.line X.env = pure false := by rfl) (hf : X.fn x = true ∨ X.env.scope.names.lookup x = some .local := by first | exact .inl rfl | exact .inr rfl | assumption) :
    IS X T W (.Assign [.Name x pos'] e pos) (sSet i aa) := ⟨ps_mono (ps_set hN hi hx he.r hs hf) fun D σ H h => by
  obtain ⟨es, S, Da, er, sr, q, dr⟩ := h
  exact ⟨es, S, _, _, er, sr, dr.xe er, q, fun v S1 h1 H1 v' t1 s1 r1 => dr.nx _ _ h1 _ _ t1 ((er.ext t1).set r1 i) s1⟩⟩
/-- a, b = x, y with plain local names -/
def sPar (i j : Nat) (t : AA) : AS := fun D es S => t (D.xe es) es S fun vs S1 => match vs with
  | [v, w] => D.nx ((es.set i (some v)).set j (some w)) S1
  | _ => False
theorem is_par {i j : Nat} {x y : Str} {a b : Expr} {ta : AA} {px py pt : Pos} {kt k2 pt2} (hc : X.calm = true) (hN : X.N.Nodup) (hi : X.N[i]? = some x) (hj : X.N[j]? = some y) (hij : i ≠ j)
    (hx : X.env.scope.names.lookup x = some .local) (hy : X.env.scope.names.lookup y = some .local) (ha : IA X T W [a, b] ta)
    (hw : swappedStores [.Tuple [.Name x px, .Name y py] kt pt] (.Tuple [a, b] k2 pt2) X.env = pure (some [x, y]) := by rfl)
    (hs : swapsWithSole [.Tuple [.Name x px, .Name y py] kt pt] (.Tuple [a, b] k2 pt2) pos.line X.env = pure false := by rfl) :
    IS X T W (.Assign [.Tuple [.Name x px, .Name y py] kt pt] (.Tuple [a, b] k2 pt2) pos) (sPar i j ta) := ⟨ps_mono (ps_par hc hN hi hj hij hx hy ha.r hw hs) fun D σ H h => by
  obtain ⟨es, S, Da, er, sr, q, dr⟩ := h
  refine ⟨es, S, _, _, er, sr, dr.xe er, q, fun vs S1 h1 H1 vs' t1 s1 r1 => ?_⟩
  match vs, vs', r1, h1 with
  | [v, w], [v', w'], .cons a (.cons b .nil), h1 => exact ⟨v', w', rfl, dr.nx _ _ h1 _ _ t1 (((er.ext t1).set a i).set b j) s1⟩⟩
end

/-! ### what is walked -/
structure Seq where
  xs : List Val
  ok : Store → Prop
structure JRep (K : PySem.W.Frag) (T : Tb) (H0 : Hp) (J : It) (q : Seq) : Prop where
  go : ∀ i S H, TupX K H0 H → q.ok S → SRep K T S H → i < q.xs.length → J.go i H
  yld : ∀ i S H x' H', TupX K H0 H → q.ok S → SRep K T S H → J.yld i H x' H' → ∀ x, q.xs[i]? = some x → VRep K H' x x' ∧ TupX K H H' ∧ SRep K T S H'
  stop : ∀ i S H, TupX K H0 H → q.ok S → SRep K T S H → q.xs.length ≤ i → J.stop i H
abbrev AI := AX → AEnv → Store → (Seq → Store → Prop) → Prop
def lowI (K : PySem.W.Frag) (T : Tb) (W : WX) (ai : AI) : TI := fun σ H R => ∃ (es : AEnv) (S : Store) (E : AX) (RR : Seq → Store → Prop), ERep K H es σ ∧ SRep K T S H ∧ XRep K T W H E σ ∧ ai E es S RR ∧
  ∀ q S1, RR q S1 → ∀ H1 J, TupX K H H1 → SRep K T S1 H1 → JRep K T H1 J q → R J H1
structure II (X : Cx) (T : Tb) (W : WX) (tg e : Expr) (ai : AI) : Prop where
  r : PI X tg e (lowI X.K T W ai)
theorem pi_mono {X : Cx} {tg e : Expr} {t t' : TI} (h : PI X tg e t) (k : ∀ σ H R, t' σ H R → t σ H R) : PI X tg e t' := ⟨fun pins s σ H R I q => h.run pins s σ H R I (k σ H R q)⟩
/-- a list, a tuple -/
def iSeq (a : AE) : AI := fun E es S R => a E es S fun v S1 => match v with
  | .tup xs => R ⟨xs, fun _ => True⟩ S1
  | .ref p => ∃ xs, (S1 p = some (.lst xs) ∨ S1 p = some (.rd xs)) ∧ R ⟨xs, fun S => S p = some (.lst xs) ∨ S p = some (.rd xs)⟩ S1
  | _ => False
section
variable {X : Cx} {T : Tb} {W : WX} {pos : Pos} {tg : Expr}
def iSq (K : PySem.W.Frag) (tl : TE) : TI := fun σ H R => tl σ H fun x H1 => (∃ a, x = .ref a ∧ (∃ xs, SqL K H1 a xs) ∧ R (Itl K a) H1) ∨ ∃ a, x = .ref a ∧ (∃ xs, SqT K H1 a xs) ∧ R (Itt K a) H1
theorem pi_sq {l : Expr} {tl : TE} (hl : PE X l tl) : PI X tg l (iSq X.K tl) := by
  refine ⟨fun pins s σ H R I h => ?_⟩
  refine thn (hl.run pins s σ H _ I h) fun v s1 ⟨x, H1, I1, r1, q1⟩ => ?_
  rcases q1 with q1 | q1
  · obtain ⟨a, e, ⟨xs, hq⟩, q⟩ := q1
    subst e
    cases r1
    obtain ⟨its, rv, p, hz⟩ := I1.list hq
    refine wpAny_pyIter_list p.isList ?_
    refine ⟨s1.heap.objs.size, [s1.heap.objs.size], _, _, H1, rfl, I1.kept (t' := s1.toks) fun b o e => Heap.get?_push_of_some _ e, turn_list a _, ⟨_, Heap.get?_push_size _ rfl, rfl, rfl⟩, fun b hb => ?_, q⟩
    have e : b = s1.heap.objs.size := by simpa using hb
    subst e
    exact I1.fpOk (Nat.le_refl _) (I1.hok.fresh (Nat.le_refl _))
  · obtain ⟨a, e, ⟨xs, hq⟩, q⟩ := q1
    subst e
    cases r1
    obtain ⟨its, rv, p, hz⟩ := I1.tuple hq
    refine wpAny_pyIter_tuple (show s1.heap.IsTuple a its.toArray from p) ?_
    refine ⟨s1.heap.objs.size, [s1.heap.objs.size], _, _, H1, rfl, I1.kept (t' := s1.toks) fun b o e => Heap.get?_push_of_some _ e, turn_tuple a _, ⟨_, Heap.get?_push_size _ rfl, rfl, rfl⟩, fun b hb => ?_, q⟩
    have e : b = s1.heap.objs.size := by simpa using hb
    subst e
    exact I1.fpOk (Nat.le_refl _) (I1.hok.fresh (Nat.le_refl _))
theorem lt_some {α : Type} {xs : List α} {i : Nat} (h : i < xs.length) : ∃ x, xs[i]? = some x := ⟨xs[i], List.getElem?_eq_getElem h⟩
theorem ii_seq {e : Expr} {aa : AE} (h : IE X T W e aa) : II X T W tg e (iSeq aa) := ⟨pi_mono (pi_sq h.r) fun σ H R h => by
  obtain ⟨es, S, E, RR, er, sr, xr, h, k⟩ := h
  refine ⟨es, S, E, _, er, sr, xr, h, fun v S1 h1 H1 v' t1 s1 r1 => ?_⟩
  cases r1 with
  | @tup p xs ys sq r =>
    refine .inr ⟨p, rfl, ⟨ys, .of sq⟩, k _ _ h1 _ _ t1 s1 ⟨fun i S H tt ok sr hi => ?_, fun i S H x' H' tt ok sr hy x hx => ?_, fun i S H tt ok sr hi => ?_⟩⟩
    · obtain ⟨z, hz⟩ := lt_some (show i < ys.length from r.length ▸ hi)
      exact ⟨ys, z, .of (tt _ _ sq), hz⟩
    · obtain ⟨e, hy⟩ := hy
      subst e
      obtain ⟨y, e1, r1⟩ := (r.ext tt).get hx
      have e2 := hy ys (.of (tt _ _ sq))
      rw [e1] at e2
      cases e2
      exact ⟨r1, .refl _, sr⟩
    · exact ⟨ys, .of (tt _ _ sq), r.length ▸ hi⟩
  | ref a =>
    obtain ⟨xs, hs, hR⟩ := h1
    obtain ⟨ys, sq, r⟩ := CRep.sql s1 hs
    refine .inl ⟨a, rfl, ⟨ys, sq⟩, k _ _ hR _ _ t1 s1 ⟨fun i S H tt ok sr hi => ?_, fun i S H x' H' tt ok sr hy x hx => ?_, fun i S H tt ok sr hi => ?_⟩⟩
    · obtain ⟨zs, sq', r'⟩ := CRep.sql sr ok
      obtain ⟨z, hz⟩ := lt_some (show i < zs.length from r'.length ▸ hi)
      exact ⟨zs, z, sq', hz⟩
    · obtain ⟨zs, sq', r'⟩ := CRep.sql sr ok
      obtain ⟨e, hy⟩ := hy
      subst e
      obtain ⟨y, e1, r1⟩ := r'.get hx
      have e2 := hy zs sq'
      rw [e1] at e2
      cases e2
      exact ⟨r1, .refl _, sr⟩
    · obtain ⟨zs, sq', r'⟩ := CRep.sql sr ok
      exact ⟨zs, sq', r'.length ▸ hi⟩
  | _ => exact h1.elim⟩
end
end A3

set_option Elab.async false
set_option linter.all false
set_option maxRecDepth 100000
set_option maxHeartbeats 4000000
/-! Room, promises of defs: with no repr under way around. -/
namespace A3
open PySem PySem.Spec PyProof.Rows L2 NdefX
/-- the kit's room, and no display is being told around -/
structure Room (k : Nat) (A : Around) : Prop where
  r : L2.Room k A
  quiet : A.guards = some []
namespace Room
variable {j k : Nat} {A : Around}
theorem mono (h : A3.Room k A) (e : j ≤ k) : A3.Room j A := ⟨h.r.mono e, h.quiet⟩
theorem deeper (h : A3.Room (k + 1) A) (env : Env) : A3.Room k (A.deeper env) := ⟨h.r.deeper env, h.quiet⟩
theorem in1 (h : A3.Room (k + 1) A) : A3.Room k A.in1 := ⟨h.r.in1, h.quiet⟩
theorem hd (h : A3.Room k A) : A.handled = none := h.r.hd
theorem depth (h : A3.Room k A) : A.depth < recursionLimit := h.r.depth
theorem units (h : A3.Room k A) : A.units + 64 < cLine := h.r.units
theorem wide (h : A3.Room k A) : A.units + 200 < cLine := by have := h.r.un; omega
end Room
/-- what a def promises of such surroundings -/
structure FnOk (P : Program) (w : World) (K : PySem.W.Frag) (mg : Str → Option Value) (base : Heap) (Cr : CXT) (k : Nat) (f : Addr) (fd : FuncData) (ps : List Str) (sp : Sp) : Prop where
  many : ∀ vs H Q E, sp vs H Q E → vs.length = ps.length
  goes : ∀ (A : Around) (outer : List Env) (s : Shared) (H : Hp) (g : Args) (us : List Value) (vs : List V) (Q : VK) (E : XK), A3.Room k A → Env0 P w K mg base A outer s H → BindsTo s fd g (ps.zip us) → Vals vs us → sp vs H Q E →
    codeAny (model P w) A (.call (.ref f) g) (CR Cr outer P w H s Q E) s
section
variable {P : Program} {w : World} {K : PySem.W.Frag} {mg : Str → Option Value} {base : Heap} {Cr : CXT} {j k : Nat} {f : Addr} {fd : FuncData} {ps : List Str} {sp sp' : Sp}
theorem FnOk.mono (F : A3.FnOk P w K mg base Cr j f fd ps sp) (h : j ≤ k) : A3.FnOk P w K mg base Cr k f fd ps sp := ⟨F.many, fun A o s H g us vs Q E hr => F.goes A o s H g us vs Q E (hr.mono h)⟩
theorem FnOk.imp (F : A3.FnOk P w K mg base Cr k f fd ps sp) (h : ∀ vs H Q E, sp' vs H Q E → sp vs H Q E) : A3.FnOk P w K mg base Cr k f fd ps sp' :=
  ⟨fun vs H Q E z => F.many vs H Q E (h _ _ _ _ z), fun A o s H g us vs Q E hr e0 b r z => F.goes A o s H g us vs Q E hr e0 b r (h _ _ _ _ z)⟩
theorem FnOk.kit (F : L2.FnOk P w K mg base Cr k f fd ps sp) : A3.FnOk P w K mg base Cr k f fd ps sp := ⟨F.len, fun A o s H g us vs Q E hr => F.run A o s H g us vs Q E hr.r⟩
theorem fn_ofG {name qual : Str} {params : Arguments} {body : List Stmt} {scope : Scope} {dV kV doc pm cdv ct oc : Value} {an od : Option Addr} {osl : Array (Option Value)} {N : List Str}
    (lk : K.lookup f = some ⟨oc, od, .func (PySem.W.fnOf name qual params body scope dV kV doc pm an cdv ct), osl⟩) (hcd : PySem.W.codeIn K cdv qual = true) (S : FnScope N ps scope) (len : ∀ vs H Q E, sp vs H Q E → vs.length = ps.length)
    (hb : ∀ (A : Around) (outer : List Env) (s : Shared) (H : Hp) (vs : List V) (Q : VK) (E : XK), A3.Room k (A.deeper (envOfC qual scope s.heap.objs.size f cdv)) → sp vs H Q E →
      ∃ t, PSs (cxOf Cr P w K mg base N qual scope f cdv A outer s H E) body t ∧ t { nx := fun _ H' => Q .non H', rt := Q } (L2.start N vs) H) :
    A3.FnOk P w K mg base Cr (k + 1) f (PySem.W.fnOf name qual params body scope dV kV doc pm an cdv ct) ps sp :=
  ⟨len, fun A outer s H g us vs Q E hr e0 b r z => LamX.run_ofS lk hcd S hr.r e0 b r (len _ _ _ _ z) fun _ => hb A outer s H vs Q E (hr.deeper _) z⟩
end
section
variable {X : Cx} {Cr : CXT} {k : Nat} {f : Addr} {fd : FuncData} {ps : List Str} {sp : Sp} {x : Str} {p pos : Pos} {e : Expr} {es : List Expr} {t : TA} {E : L2.St → XK}
/-- a call by name -/
theorem pe_callG (F : A3.FnOk X.prog X.w X.K X.mg X.base Cr k f fd ps sp) (hr : A3.Room k X.A) (hg : Gl X x) (hm : X.mg x = some (.ref f)) (hk : PySem.W.keepIn X.K (.ref f) = true) (hb : Binds X.K fd ps []) (hx : ∀ σ, PassesAt Cr X σ (E σ))
    (ha : PA X (e :: es) t) (hdb : (x == ("__debug__" : Str)) = false) (he : starEach (e :: es) X.env = (false, eval e X.env) :: starEach es X.env) (hpl : (backTo pos (starEach es X.env)).any (·.1) = false) :
    PE X (.Call (.Name x p) (e :: es) [] pos) (tCallS sp E t) := ⟨fun pins s σ H Q I h => wpAny_Call_Name_kw (ld_glob I hg hm (PySem.W.callWith_K (h₀ := X.base) I.ok.mod.kin hk (thn (ha.run pos pins s σ H _ I h) fun us z hz => by
  obtain ⟨vs, G, J, rv, q⟩ := hz
  have nl : us.length = ps.length := rv.length.symm.trans (F.many _ _ _ _ q)
  have bd : BindsTo z fd ⟨us, []⟩ (ps.zip us) := by
    have b0 := hb z us J.kIn (by simpa using nl)
    simpa using b0
  refine ⟨J.kIn, wpAny_call (codeAny_mono (F.goes X.A X.stack z G ⟨us, []⟩ us vs Q (E σ) hr J.env0 bd rv q) fun res z' hq => ?_)⟩
  match res, hq with
  | .error er, hq => exact hx σ pins G z er z' J hq
  | .ok (.ret u), hq => exact J.after hq
  | .ok .next, hq => exact hq.elim
  | .ok .brk, hq => exact hq.elim
  | .ok .cont, hq => exact hq.elim) he hpl) hdb)⟩
end
section
variable {Cr : CXT} {P : Program} {w : World} {K : PySem.W.Frag} {mg : Str → Option Value} {base : Heap} {N ps fr : List Str} {F : NF} {f : Addr} {k : Nat} {sp : List (Option V) → Sp}
/-- what a nested def promises of such surroundings -/
structure NOk (P : Program) (w : World) (K : PySem.W.Frag) (mg : Str → Option Value) (base : Heap) (Cr : CXT) (k : Nat) (f : Addr) (F : NF) (ps fr : List Str) (sp : List (Option V) → Sp) : Prop where
  goes : ∀ (A : Around) (outer : List Env) (s : Shared) (H : Hp) (us : List Value) (vs : List V) (ws : List (Option V)) (Q : VK) (E : XK), A3.Room k A → Env0 P w K mg base A outer s H → H f = some (FnO f F) → H F.c = some (LamX.CodeO F.c F.qual) →
    CellsAt F.cl fr ws s.heap H → Vals vs us → sp ws vs H Q E → codeAny (model P w) A (.call (.ref f) ⟨us, []⟩) (CR Cr outer P w H s Q E) s
theorem nok_ofG (S : NScope N ps fr F.scope) (hb : ∀ (doc pm ctv : Value) (us : List Value), us.length = ps.length → bindArgs (F.fd doc pm ctv) ⟨us, []⟩ = pure (ps.zip us)) (len : ∀ ws vs H Q E, sp ws vs H Q E → vs.length = ps.length)
    (body : ∀ (A : Around) (outer : List Env) (s : Shared) (H : Hp) (vs : List V) (ws : List (Option V)) (Q : VK) (E : XK), A3.Room k (A.deeper (envF F f s.heap.objs.size)) → sp ws vs H Q E →
      ∃ t, PSs (ncx Cr P w K mg base N F f A outer s H E) F.body t ∧ t { nx := fun _ H' => Q .non H', rt := Q } (startF N vs ws) H) :
    A3.NOk P w K mg base Cr (k + 1) f F ps fr sp := ⟨fun A outer s H us vs ws Q E hr e0 hf hc C rv z => by
  have nv := len _ _ _ _ _ z
  obtain ⟨od, sl, dc, pm, cv, at_f⟩ := fnO_at e0.hok hf
  have free : s.heap.NoLimit := e0.mod.nolimit.keeps fun b o e => (e0.bs b o e).1
  refine codeAny_call_function hr.depth at_f rfl S.co S.gen rfl (codeO_at e0.hok hc) ?_
  rw [hb dc pm cv us (rv.length.symm.trans nv)]
  refine wpAny_pure (wpAny_newFunctionEnv S.nocell (fun ⟨n, _⟩ hy => S.par n (List.of_mem_zip hy).1) (fun hh ns sb => ⟨free.fresh _ sb, ?_⟩) S.kind)
  obtain ⟨t, ht, q⟩ := body A outer s H vs ws Q E (hr.deeper _) z
  have kept : ∀ b o, s.heap.get? b = some o → hh.get? b = some o := fun b o e => sb.extBut b o (fun z => absurd (Heap.lt_size e) (by rw [z]; exact Nat.lt_irrefl _)) (Heap.get?_push_of_some _ e)
  have J : Inv (ncx Cr P w K mg base N F f A outer s H E) [] (startF N vs ws) H { s with heap := hh, toks := s.toks + (ps.zip us).length } := inv_startN S hr.hd e0 nv rv C ns kept
  show codeAny _ _ (.func F.body (envF F f s.heap.objs.size)) _ _
  refine codeAny_func (wpAny_mono (ht.run [] _ (startF N vs ws) H _ J q) (fun fl s' hs => ?_) fun _ _ hs => hs)
  match fl, hs with
  | .ret u, ⟨v, σ', H', J', rv', q'⟩ => exact ⟨v, H', J'.os, J'.bare, J'.base, J'.hok, rv', q'⟩
  | .next, ⟨σ', H', J', q'⟩ => exact ⟨V.non, H', J'.os, J'.bare, J'.base, J'.hok, rfl, q'⟩
  | .brk, ⟨_, _, _, q'⟩ => exact False.elim q'
  | .cont, ⟨_, _, _, q'⟩ => exact False.elim q'⟩
end
end A3

set_option Elab.async false
set_option linter.all false
set_option maxRecDepth 100000
set_option maxHeartbeats 4000000
namespace A3
open PySem PySem.Spec PyProof.Rows L2

/-! ### loops -/
def sFor (ai : AI) (g : AG) (body : AS) : AS := fun D es S => ai (D.xe es) es S fun q S1 => ∃ I : Nat → AEnv → Store → Prop, I 0 es S1 ∧ ∀ i es S, I i es S → q.ok S ∧
  (∀ x, q.xs[i]? = some x → g (fun _ _ => False) x es S fun es2 S2 => body { D with nx := I (i + 1), ct := I (i + 1), bk := D.nx } es2 S2) ∧ (q.xs.length ≤ i → D.nx es S)
def sWhile (c : AT) (body : AS) : AS := fun D es S => ∃ I : Nat → AEnv → Store → Prop, (∃ m, I m es S) ∧ ∀ m es S, I m es S →
  c (D.xe es) es S fun b S1 => if b = true then body { D with nx := fun es' S' => ∃ m', m' < m ∧ I m' es' S', ct := fun es' S' => ∃ m', m' < m ∧ I m' es' S', bk := D.nx } es S1 else D.nx es S1
section
variable {X : Cx} {T : Tb} {W : WX} {pos : Pos} {tg iter : Expr} {body : List Stmt} {ai : AI} {g : AG} {tb : AS}
theorem is_for (hp : PassesOwn (model X.prog X.w) X.A X.env X.xe) (hc : X.calm = true) (hi : II X T W tg iter ai) (hg : IG X T W tg g) (hb : ISs X T W body tb)
    (hs : ∀ x, foldedSetIterable iter X.env x = pure x := by intro _; rfl) : IS X T W (.For tg iter body [] pos) (sFor ai g tb) := ⟨ps_mono (ps_for hp hc hi.r hg.r hb.r hs) fun D σ H h => by
  obtain ⟨es, S, Da, er, sr, h, dr⟩ := h
  refine ⟨es, S, _, _, er, sr, dr.xe er, h, fun q S1 ⟨I, h0, hI⟩ H1 J t1 s1 jr => ?_⟩
  refine ⟨fun i m σ' H' => ∃ es' S', i + m = q.xs.length ∧ TupX X.K H1 H' ∧ ERep X.K H' es' σ' ∧ SRep X.K T S' H' ∧ I i es' S', ⟨q.xs.length, es, S1, by omega, .refl _, er.ext t1, s1, h0⟩, ?_⟩
  rintro i m σ' H' ⟨es', S', hm, tt, er', sr', hi'⟩
  obtain ⟨ok, hgo, hst⟩ := hI i es' S' hi'
  have dr' := dr.ext (t1.trans tt)
  cases m with
  | zero => exact .inl ⟨jr.stop i S' H' tt ok sr' (by omega), dr.nx _ _ (hst (by omega)) _ _ (t1.trans tt) er' sr'⟩
  | succ m =>
    refine .inr ⟨jr.go i S' H' tt ok sr' (by omega), fun σ2 H2 => ∃ es2 S2, TupX X.K H1 H2 ∧ ERep X.K H2 es2 σ2 ∧ SRep X.K T S2 H2 ∧ I (i + 1) es2 S2, fun σ2 H2 ⟨es2, S2, a, b, c, d⟩ => ⟨m, by omega, es2, S2, by omega, a, b, c, d⟩, fun x' H2 hy => ?_⟩
    obtain ⟨x, hx⟩ := lt_some (show i < q.xs.length by omega)
    obtain ⟨vr, t2, s2⟩ := jr.yld i S' H' x' H2 tt ok sr' hy x hx
    refine ⟨x, es', S', _, _, vr, er'.ext t2, s2, xrep0, hgo x hx, fun es3 S3 h3 σ3 H3 t3 er3 sr3 => ⟨es3, S3, _, er3, sr3, h3, ?_⟩⟩
    have dr3 := dr'.ext (t2.trans t3)
    exact { nx := fun es4 S4 h4 σ4 H4 t4 er4 sr4 => ⟨es4, S4, ((tt.trans t2).trans t3).trans t4, er4, sr4, h4⟩, ct := fun es4 S4 h4 σ4 H4 t4 er4 sr4 => ⟨es4, S4, ((tt.trans t2).trans t3).trans t4, er4, sr4, h4⟩, bk := dr3.nx, rt := dr3.rt, ex := dr3.ex }⟩
theorem is_while {c : Expr} {tc : AT} (hp : PassesOwn (model X.prog X.w) X.A X.env X.xe) (hc : IT X T W c tc) (hb : ISs X T W body tb) : IS X T W (.While c body [] pos) (sWhile tc tb) := ⟨ps_mono (ps_while hp hc.r hb.r) fun D σ H h => by
  obtain ⟨es, S, Da, er, sr, ⟨I, ⟨m0, h0⟩, hI⟩, dr⟩ := h
  refine ⟨fun m σ' H' => ∃ es' S', TupX X.K H H' ∧ ERep X.K H' es' σ' ∧ SRep X.K T S' H' ∧ I m es' S', ⟨m0, es, S, .refl _, er, sr, h0⟩, ?_⟩
  rintro m σ' H' ⟨es', S', tt, er', sr', hi'⟩
  have dr' := dr.ext tt
  refine ⟨es', S', _, _, er', sr', dr'.xe er', hI m es' S' hi', fun b S1 h1 H1 t1 s1 => ?_⟩
  cases b with
  | true =>
    refine ⟨fun σ2 H2 => ∃ m' es2 S2, m' < m ∧ TupX X.K H H2 ∧ ERep X.K H2 es2 σ2 ∧ SRep X.K T S2 H2 ∧ I m' es2 S2, fun σ2 H2 ⟨m', es2, S2, l, a, b, c, d⟩ => ⟨m', l, es2, S2, a, b, c, d⟩, es', S1, _, er'.ext t1, s1, h1, ?_⟩
    have dr3 := dr'.ext t1
    exact { nx := fun es4 S4 ⟨m', l, h4⟩ σ4 H4 t4 er4 sr4 => ⟨m', es4, S4, l, (tt.trans t1).trans t4, er4, sr4, h4⟩, ct := fun es4 S4 ⟨m', l, h4⟩ σ4 H4 t4 er4 sr4 => ⟨m', es4, S4, l, (tt.trans t1).trans t4, er4, sr4, h4⟩, bk := dr3.nx, rt := dr3.rt, ex := dr3.ex }
  | false => exact dr'.nx _ _ h1 _ _ t1 (er'.ext t1) s1⟩
end

/-! ### list comprehensions -/
abbrev X0 : AX := fun _ _ => False
abbrev W0 : WX := fun _ _ _ _ => False
structure ITs (X : Cx) (T : Tb) (W : WX) (ifs : List Expr) (a : AT) : Prop where
  r : PTs X ifs (lowT X.K T W a)
def aYes : AT := fun _ _ S R => R true S
/-- [elt for target in iter if ..]; vs: the slots of the comprehension's own names -/
def aLc (ai : AI) (g : AG) (tt : AT) (te : AE) (vs : List Nat) : AE := fun E es S R => ai E es S fun q S1 => ∀ p, S1 p = none → ∃ I : Nat → Store → Prop, I 0 (ups S1 p (.lst [])) ∧ ∀ i S, I i S → q.ok S ∧
  (∀ x, q.xs[i]? = some x → g X0 x (awipe es vs) S fun es2 S2 => tt X0 es2 S2 fun b S3 => if b = true then te X0 es2 S3 fun y S4 => ∃ acc, S4 p = some (.lst acc) ∧ acc.length < sizeLine ∧ I (i + 1) (ups S4 p (.lst (acc ++ [y]))) else I (i + 1) S3) ∧
  (q.xs.length ≤ i → R (.ref p) S)
section
variable {X : Cx} {T : Tb} {W : WX} {pos : Pos} {tg iter elt : Expr} {ifs : List Expr} {ai : AI} {g : AG} {tt : AT} {te : AE} {scope : Scope} {own : List (Str × Nat)}
theorem its_nil : ITs X T W [] aYes := ⟨⟨fun pins s σ H Q I h => by
  obtain ⟨es, S, E, R, er, sr, xr, h, k⟩ := h
  exact pts_nil.run pins s σ H Q I (k _ _ h H (.refl H) sr)⟩⟩
theorem its_one {c : Expr} {t : AT} (h : IT X T W c t) : ITs X T W [c] t := ⟨pts_one h.r⟩
theorem wipe_get : ∀ (vs : List Nat) (σ : St) (i : Nat), (wipe σ vs)[i]? = if i ∈ vs then (if i < σ.length then some none else none) else σ[i]?
  | [], σ, i => by simp [wipe]
  | v :: vs, σ, i => by
    unfold wipe
    rw [List.getElem?_set, wipe_length, wipe_get vs]
    by_cases h : v = i
    · subst h
      simp
    · rw [if_neg h]
      have e : (i ∈ v :: vs) ↔ (i ∈ vs) := by simp [Ne.symm h]
      simp only [e]
theorem wipe_wipe (σ : St) (vs : List Nat) : wipe (wipe σ vs) vs = wipe σ vs := by
  apply List.ext_getElem?
  intro i
  rw [wipe_get, wipe_get, wipe_length]
  split <;> rfl
theorem wipe_set {σ : St} {vs : List Nat} {i : Nat} (h : i ∈ vs) (o : Option V) : wipe (σ.set i o) vs = wipe σ vs := by
  apply List.ext_getElem?
  intro j
  rw [wipe_get, wipe_get, List.length_set, List.getElem?_set]
  by_cases hj : j ∈ vs
  · rw [if_pos hj, if_pos hj]
  · rw [if_neg hj, if_neg hj, if_neg (by intro e; subst e; exact hj h)]
/-- a comprehension's target: it stores at the places vs alone -/
def lowGv (K : PySem.W.Frag) (T : Tb) (vs : List Nat) (g : AG) : TG := fun v' σ H Q => ∃ (v : Val) (es : AEnv) (S : Store) (R : AEnv → Store → Prop), VRep K H v v' ∧ ERep K H es σ ∧ SRep K T S H ∧ g X0 v es S R ∧
  ∀ es' S', R es' S' → ∀ σ' H', wipe σ' vs = wipe σ vs → TupX K H H' → ERep K H' es' σ' → SRep K T S' H' → Q σ' H'
def lowGvs (K : PySem.W.Frag) (T : Tb) (vs : List Nat) (g : AGs) : TGs := fun v' σ H Q => ∃ (v : List Val) (es : AEnv) (S : Store) (R : AEnv → Store → Prop), VReps K H v v' ∧ ERep K H es σ ∧ SRep K T S H ∧ g X0 v es S R ∧
  ∀ es' S', R es' S' → ∀ σ' H', wipe σ' vs = wipe σ vs → TupX K H H' → ERep K H' es' σ' → SRep K T S' H' → Q σ' H'
structure IGv (X : Cx) (T : Tb) (vs : List Nat) (tg : Expr) (g : AG) : Prop where
  r : PG X tg (lowGv X.K T vs g)
structure IGvs (X : Cx) (T : Tb) (vs : List Nat) (tg : List Expr) (g : AGs) : Prop where
  r : PGs X tg (lowGvs X.K T vs g)
theorem igv_name {vs : List Nat} {i : Nat} {x : Str} (hN : X.N.Nodup) (hi : X.N[i]? = some x) (hx : Loc X.env.scope x) (hv : i ∈ vs) (hf : X.fn x = true ∨ X.env.scope.names.lookup x = some .local := by first | exact .inl rfl | exact .inr rfl | assumption) : IGv X T vs (.Name x pos) (tName i) :=
  ⟨pg_mono (pg_name hN hi hx hf) fun v' σ H Q h => by
    obtain ⟨v, es, S, R, vr, er, sr, h, k⟩ := h
    exact k _ _ h _ H (wipe_set hv _) (.refl H) (er.set vr i) sr⟩
theorem igvs_nil {vs : List Nat} : IGvs X T vs [] tNilA := ⟨pgs_mono pgs_nil fun v' σ H Q h => by
  obtain ⟨v, es, S, R, vr, er, sr, ⟨e, h⟩, k⟩ := h
  subst e
  cases vr
  exact ⟨rfl, k _ _ h _ H rfl (.refl H) er sr⟩⟩
theorem igvs_cons {vs : List Nat} {e : Expr} {es : List Expr} {g : AG} {r : AGs} (h1 : IGv X T vs e g) (h2 : IGvs X T vs es r) (hs : (assignEach (e :: es) X.env).map (·.2) = assign e X.env :: (assignEach es X.env).map (·.2) := by rfl) : IGvs X T vs (e :: es) (tConsA g r) :=
  ⟨pgs_mono (pgs_cons h1.r h2.r hs) fun v' σ H Q h => by
    obtain ⟨v, es, S, R, vr, er, sr, h, k⟩ := h
    cases vr with
    | nil => exact h.elim
    | @cons x y xs ys r1 r2 =>
      refine ⟨y, ys, rfl, x, es, S, _, r1, er, sr, h, fun es1 S1 h1 σ1 H1 w1 t1 er1 sr1 => ⟨xs, es1, S1, _, r2.ext t1, er1, sr1, h1, fun es' S' hh σ' H' w t er sr => k _ _ hh _ _ (w.trans w1) (t1.trans t) er sr⟩⟩⟩
theorem igv_tup {vs : List Nat} {es : List Expr} {j : Nat} {g : AGs} {n : Nat} (hc : X.calm = true) (h : IGvs X T vs es g)
    (hn : (assignEach es X.env).length = n := by rfl) (hst : (assignEach es X.env).findIdx? (·.1) = none := by rfl) : IGv X T vs (.Tuple es j pos) (tTupA n g) := ⟨pg_mono (pg_tup hc h.r hn hst) fun v' σ H Q h => by
    obtain ⟨v, es, S, R, vr, er, sr, h, k⟩ := h
    cases vr with
    | tup s r => exact ⟨_, _, rfl, .of s, r.length ▸ h.1, _, es, S, _, r, er, sr, h.2, k⟩
    | _ => exact h.elim⟩
theorem igv_lst {vs : List Nat} {es : List Expr} {j : Nat} {g : AGs} {n : Nat} (hc : X.calm = true) (h : IGvs X T vs es g)
    (hn : (assignEach es X.env).length = n := by rfl) (hst : (assignEach es X.env).findIdx? (·.1) = none := by rfl) : IGv X T vs (.Tuple es j pos) (tLstA n g) := ⟨pg_mono (pg_lst hc h.r hn hst) fun v' σ H Q h => by
    obtain ⟨v, es, S, R, vr, er, sr, h, k⟩ := h
    cases vr with
    | ref a =>
      obtain ⟨xs, hs, hl, hg⟩ := h
      obtain ⟨ys, sq, r⟩ := CRep.sql sr hs
      exact ⟨a, ys, rfl, sq, r.length ▸ hl, xs, es, S, _, r, er, sr, hg, k⟩
    | _ => exact h.elim⟩
theorem low_lc {H0 : Hp} {vs : List Nat} {σ : St} {Q : VK} (h : lowE X.K T W (aLc ai g tt te vs) σ H0 Q) : tLc (lowI X.K T W ai) (lowGv X.K T vs g) (lowT X.K T W0 tt) (lowE X.K T W0 te) vs σ H0 Q := by
  obtain ⟨es, S, E, R, er, sr, xr, h, k⟩ := h
  refine ⟨es, S, E, _, er, sr, xr, h, fun q S1 h1 H1 J t1 s1 jr D hD => ?_⟩
  obtain ⟨I, h0, hI⟩ := h1 D (s1.free hD)
  have tD : TupX X.K H1 (upd H1 D (.lst [])) := .upd (noTup_none hD)
  refine ⟨fun i m H' => ∃ S', i + m = q.xs.length ∧ TupX X.K H1 H' ∧ SRep X.K T S' H' ∧ I i S', ⟨q.xs.length, _, by omega, tD, s1.new (c := .lst []) hD ⟨[], upd_same, .nil⟩, h0⟩, ?_⟩
  rintro i m H' ⟨S', hm, t2, sr', hi'⟩
  obtain ⟨ok, hgo, hst⟩ := hI i S' hi'
  have er' := er.ext (t1.trans t2)
  cases m with
  | zero => exact .inl ⟨jr.stop i S' H' t2 ok sr' (by omega), k _ _ (hst (by omega)) _ _ (t1.trans t2) sr' (.ref D)⟩
  | succ m =>
    refine .inr ⟨jr.go i S' H' t2 ok sr' (by omega), fun H2 => ∃ S2, TupX X.K H1 H2 ∧ SRep X.K T S2 H2 ∧ I (i + 1) S2, fun H2 ⟨S2, a, b, c⟩ => ⟨m, by omega, S2, by omega, a, b, c⟩, fun x' H2 hy => ?_⟩
    obtain ⟨x, hx⟩ := lt_some (show i < q.xs.length by omega)
    obtain ⟨vr, t3, s3⟩ := jr.yld i S' H' x' H2 t2 ok sr' hy x hx
    refine ⟨x, awipe es vs, S', _, vr, (er'.ext t3).wipe vs, s3, hgo x hx, fun es4 S4 h4 σ4 H4 w4 t4 er4 sr4 => ⟨w4.trans (wipe_wipe _ _), es4, S4, _, _, er4, sr4, xrep0, h4, fun b S5 h5 H5 t5 s5 => ?_⟩⟩
    have t24 := (t2.trans t3).trans t4
    cases b with
    | false => exact ⟨S5, t24.trans t5, s5, h5⟩
    | true =>
      refine ⟨es4, S5, _, _, er4.ext t5, s5, xrep0, h5, fun y S6 h6 H6 y' t6 s6 r6 => ?_⟩
      obtain ⟨acc, ea, hz, hn⟩ := h6
      obtain ⟨acc', ea', ra⟩ := s6.cell D _ ea
      have tu : TupX X.K H6 (upd H6 D (.lst (acc' ++ [y']))) := .upd (s6.cell D _ ea).noTup
      exact ⟨acc', ea', ra.length ▸ hz, _, ((t24.trans t5).trans t6).trans tu, s6.write (c := .lst (acc ++ [y])) ea ⟨_, upd_same, (ra.ext tu).snoc (r6.ext tu)⟩, hn⟩
/-- as a value -/
theorem ie_lc (hc : X.calm = true) (hN : X.N.Nodup) (hi : II X T W tg iter ai) (ok : BlkOk X.N X.env.scope scope own)
    (hg : ∀ (s : Shared) (H : Hp) (C : Addr) (cl : List (Str × Addr)) (fp : List Addr), IGv (X.blk s H scope (compEnvC scope cl C X.env) fp) T (own.map (·.2)) tg g)
    (ht : ∀ (s : Shared) (H : Hp) (C : Addr) (cl : List (Str × Addr)) (fp : List Addr), ITs (X.blk s H scope (compEnvC scope cl C X.env) fp) T W0 ifs tt)
    (he : ∀ (s : Shared) (H : Hp) (C : Addr) (cl : List (Str × Addr)) (fp : List Addr), IE (X.blk s H scope (compEnvC scope cl C X.env) fp) T W0 elt te) (hs : ∀ x, foldedSetIterable iter X.env x = pure x := by intro _; rfl) :
    IE X T W (.ListComp elt [⟨tg, iter, ifs, 0⟩] scope pos) (aLc ai g tt te (own.map (·.2))) :=
  ⟨pe_mono (pe_lc hc hN hi.r ok (fun s H C cl fp => (hg s H C cl fp).r) (fun s H C cl fp => (ht s H C cl fp).r) (fun s H C cl fp => (he s H C cl fp).r) hs) fun σ H Q h => low_lc h⟩
/-- name = [..] on one line, the name a local -/
theorem is_setLc {i : Nat} {y : Str} {py spos : Pos} (hc : X.calm = true) (hN : X.N.Nodup) (hy : X.N[i]? = some y) (hyl : X.env.scope.names.lookup y = some .local)
    (hsw : swapsWith (.ListComp elt [⟨tg, iter, ifs, 0⟩] scope pos) (some (.Name y py)) spos.line X.env = pure true) (hi : II X T W tg iter ai) (ok : BlkOk X.N X.env.scope scope own)
    (hg : ∀ (s : Shared) (H : Hp) (C : Addr) (cl : List (Str × Addr)) (fp : List Addr), IGv (X.blk s H scope (compEnvC scope cl C X.env) fp) T (own.map (·.2)) tg g)
    (ht : ∀ (s : Shared) (H : Hp) (C : Addr) (cl : List (Str × Addr)) (fp : List Addr), ITs (X.blk s H scope (compEnvC scope cl C X.env) fp) T W0 ifs tt)
    (he : ∀ (s : Shared) (H : Hp) (C : Addr) (cl : List (Str × Addr)) (fp : List Addr), IE (X.blk s H scope (compEnvC scope cl C X.env) fp) T W0 elt te) (hs : ∀ x, foldedSetIterable iter X.env x = pure x := by intro _; rfl) :
    IS X T W (.Assign [.Name y py] (.ListComp elt [⟨tg, iter, ifs, 0⟩] scope pos) spos) (sSet i (aLc ai g tt te (own.map (·.2)))) :=
  ⟨ps_mono (ps_setLc hc hN hy hyl hsw hi.r ok (fun s H C cl fp => (hg s H C cl fp).r) (fun s H C cl fp => (ht s H C cl fp).r) (fun s H C cl fp => (he s H C cl fp).r) hs) fun D σ H h => by
    obtain ⟨es, S, Da, er, sr, q, dr⟩ := h
    exact low_lc ⟨es, S, _, _, er, sr, dr.xe er, q, fun v S1 h1 H1 v' t1 s1 r1 => dr.nx _ _ h1 _ _ t1 ((er.ext t1).set r1 i) s1⟩⟩
end

/-! ### defs -/
abbrev ASp := List Val → Store → AK → AX → Prop
def lowSp (K : PySem.W.Frag) (T : Tb) (asp : ASp) : Sp := fun vs H Q E => ∃ (va : List Val) (S : Store) (R : AK) (RE : AX), VReps K H va vs ∧ SRep K T S H ∧ asp va S R RE ∧
  (∀ v S', R v S' → ∀ H' v', TupX K H H' → SRep K T S' H' → VRep K H' v v' → Q v' H') ∧ ∀ x S', RE x S' → ∀ H' d, TupX K H H' → SRep K T S' H' → DctRep K H' x.fs d → E (.ref x.C) d H'
def aCall (asp : ASp) (t : AA) : AE := fun E es S R => t E es S fun vs S1 => asp vs S1 R E
section
variable {X : Cx} {T : Tb} {W : WX} {k : Nat} {f : Addr} {fd : FuncData} {ps : List Str} {asp : ASp} {x : Str} {p pos : Pos} {e : Expr} {es : List Expr} {t : AA}
theorem ie_call (F : FnOk X.prog X.w X.K X.mg X.base (L2.CX X.prog X.w) k f fd ps (lowSp X.K T asp)) (hr : Room k X.A) (hg : Gl X x) (hm : X.mg x = some (.ref f)) (hk : PySem.W.keepIn X.K (.ref f) = true) (hb : Binds X.K fd ps []) (tk : Takes X W)
    (ha : IA X T W (e :: es) t) (hdb : (x == ("__debug__" : Str)) = false := by decide) (he : starEach (e :: es) X.env = (false, eval e X.env) :: starEach es X.env := by rfl) (hpl : (backTo pos (starEach es X.env)).any (·.1) = false := by rfl) :
    IE X T W (.Call (.Name x p) (e :: es) [] pos) (aCall asp t) := ⟨pe_mono (pe_callG F hr hg hm hk hb (fun σ => passAt tk σ) ha.r hdb he hpl) fun σ H Q h => by
  obtain ⟨es, S, E, R, er, sr, xr, h, k⟩ := h
  exact ⟨es, S, E, _, er, sr, xr, h, fun vs S1 h1 H1 vs' t1 s1 r1 => ⟨vs, S1, R, E, r1, s1, h1, fun v S' hv H' v' t s r => k _ _ hv _ _ (t1.trans t) s r, fun x S' hx H' d t s q => xr x S' hx H' d (t1.trans t) s q⟩⟩⟩
end
def astart (N : List Str) (vs : List Val) : AEnv := vs.map some ++ List.replicate (N.length - vs.length) none
theorem erep_start {K : PySem.W.Frag} {H : Hp} (N : List Str) {va : List Val} {vs : List V} (r : VReps K H va vs) : ERep K H (astart N va) (start N vs) := by
  refine ⟨by simp [astart, L2.start, r.length], fun i x e => ?_⟩
  unfold astart at e
  unfold L2.start
  rw [List.getElem?_append] at e ⊢
  rw [List.length_map] at e ⊢
  by_cases h : i < va.length
  · rw [if_pos h] at e
    rw [← r.length, if_pos h]
    rw [List.getElem?_map] at e ⊢
    cases e1 : va[i]? with
    | none => rw [e1] at e; cases e
    | some z =>
      rw [e1] at e
      cases e
      obtain ⟨y, h1, h2⟩ := r.get e1
      exact ⟨y, by rw [h1]; rfl, h2⟩
  · rw [if_neg h] at e
    rw [List.getElem?_replicate] at e
    split at e <;> cases e
end A3

set_option Elab.async false
set_option linter.all false
set_option maxRecDepth 100000
set_option maxHeartbeats 4000000
namespace A3
open PySem PySem.Spec PyProof.Rows L2

/-! ### the rules' machinery -/
section
variable {X : Cx} {T : Tb}
/-- an operation's rule from a case look -/
theorem opA {f : Value → Value → Sem Value} {r : A2} (h : ∀ (x y : Val) (S : Store) (R : AK) (x' y' : V) (H : Hp) (Q : VK), VRep X.K H x x' → VRep X.K H y y' → SRep X.K T S H → r x y S R →
    (∀ v S', R v S' → ∀ H' v', TupX X.K H H' → SRep X.K T S' H' → VRep X.K H' v v' → Q v' H') → ∃ r' : R2, OpR X f r' ∧ r' x' y' H Q) : OpR X f (low2 X.K T r) := by
  intro pins s σ H x' y' v u Q I rx ry ⟨x, y, S, R, vx, vy, sr, q, k⟩
  obtain ⟨r', ho, hq⟩ := h x y S R x' y' H Q vx vy sr q k
  exact ho pins s σ H x' y' v u Q I rx ry hq
/-- new things -/
theorem newTup {K : PySem.W.Frag} {S : Store} {H : Hp} {xs : List Val} {ys : List V} {R : AK} {Q : VK} {p : Addr} (sr : SRep K T S H) (hp : H p = none) (r : VReps K H xs ys) (h : R (.tup xs) S)
    (k : ∀ v S', R v S' → ∀ H' v', TupX K H H' → SRep K T S' H' → VRep K H' v v' → Q v' H') : Q (.ref p) (upd H p (.tup ys)) :=
  k _ _ h _ _ (.upd (noTup_none hp)) (sr.laid hp) (.tup upd_same (r.ext (.upd (noTup_none hp))))
theorem newLst {K : PySem.W.Frag} {S : Store} {H : Hp} {xs : List Val} {ys : List V} {R : AK} {Q : VK} {p : Addr} (sr : SRep K T S H) (hp : H p = none) (r : VReps K H xs ys) (h : ∀ p, S p = none → R (.ref p) (ups S p (.lst xs)))
    (k : ∀ v S', R v S' → ∀ H' v', TupX K H H' → SRep K T S' H' → VRep K H' v v' → Q v' H') : Q (.ref p) (upd H p (.lst ys)) :=
  k _ _ (h p (sr.free hp)) _ _ (.upd (noTup_none hp)) (sr.new (c := .lst xs) hp ⟨ys, upd_same, r.ext (.upd (noTup_none hp))⟩) (.ref p)
theorem setLst {K : PySem.W.Frag} {S : Store} {H : Hp} {xs : List Val} {ys : List V} {p : Addr} {c : Cell} (sr : SRep K T S H) (hp : S p = some c) (r : VReps K H xs ys) (hm : c.isClo = false := by rfl) :
    TupX K H (upd H p (.lst ys)) ∧ SRep K T (ups S p (.lst xs)) (upd H p (.lst ys)) :=
  have t : TupX K H (upd H p (.lst ys)) := .upd (sr.cell p c hp).noTup
  ⟨t, sr.write (c := .lst xs) hp ⟨ys, upd_same, r.ext t⟩ hm⟩
end

/-! ### arithmetic -/
def addA : A2 := fun x y S R => match x, y with
  | .int i, .int j => R (.int (i + j)) S
  | .str a, .str b => a.length + b.length ≤ sizeLine ∧ R (.str (a ++ b)) S
  | .tup xs, .tup ys => xs.length + ys.length ≤ sizeLine ∧ R (.tup (xs ++ ys)) S
  | .ref a, .ref b => ∃ xs ys, S a = some (.lst xs) ∧ S b = some (.lst ys) ∧ xs.length + ys.length ≤ sizeLine ∧ ∀ p, S p = none → R (.ref p) (ups S p (.lst (xs ++ ys)))
  | _, _ => False
def subA : A2 := fun x y S R => match x, y with
  | .int i, .int j => R (.int (i - j)) S
  | _, _ => False
def mulA : A2 := fun x y S R => match x, y with
  | .int i, .int j => (CMul i j ∨ CMulW i j) ∧ R (.int (i * j)) S
  | .ref a, .int j => ∃ xs, S a = some (.lst xs) ∧ -(2 ^ 63) ≤ j ∧ j < 2 ^ 63 ∧ xs.length * j.toNat ≤ sizeLine ∧ ∀ p, S p = none → R (.ref p) (ups S p (.lst (List.replicate j.toNat xs).flatten))
  | _, _ => False
def fdivA : A2 := fun x y S R => match x, y with
  | .int i, .int j => (CDiv i j ∨ CDivW i j) ∧ R (.int (i / j)) S
  | _, _ => False
def modA : A2 := fun x y S R => match x, y with
  | .int i, .int j => 0 < j ∧ R (.int (i % j)) S
  | _, _ => False
def powA : A2 := fun x y S R => match x, y with
  | .int i, .int j => CPow i j ∧ R (.int (i ^ j.toNat)) S
  | _, _ => False
section
variable {X : Cx} {T : Tb}
theorem oA_add : OpR X (binaryOp .Add) (low2 X.K T addA) := opA fun x y S R x' y' H Q vx vy sr q k => by
  cases vx with
  | int i =>
    cases vy with
    | int j => exact ⟨_, op_add, i, j, rfl, rfl, k _ _ q H _ (.refl H) sr (.int _)⟩
    | _ => exact q.elim
  | str i =>
    cases vy with
    | str j => exact ⟨_, op_add_str, i, j, rfl, rfl, q.1, k _ _ q.2 H _ (.refl H) sr (.str _)⟩
    | _ => exact q.elim
  | @tup p xs xs' h1 r1 =>
    cases vy with
    | @tup p2 ys ys' h2 r2 =>
      refine ⟨_, op_catA, p, p2, xs', ys', rfl, rfl, .of h1, .of h2, r1.length ▸ r2.length ▸ q.1, fun e => ?_, fun _ e => ?_, fun _ _ p hp => newTup sr hp (r1.append r2) q.2 k⟩
      · subst e; cases r1
        exact k _ _ q.2 H _ (.refl H) sr (.tup h2 r2)
      · subst e; cases r2
        have q2 := q.2
        rw [List.append_nil] at q2
        exact k _ _ q2 H _ (.refl H) sr (.tup h1 r1)
    | _ => exact q.elim
  | ref a =>
    cases vy with
    | ref b =>
      obtain ⟨xs, ys, h1, h2, hz, q⟩ := q
      obtain ⟨xs', e1, r1⟩ := sr.cell a _ h1
      obtain ⟨ys', e2, r2⟩ := sr.cell b _ h2
      exact ⟨_, op_cat, a, b, xs', ys', rfl, rfl, e1, e2, r1.length ▸ r2.length ▸ hz, fun p hp => newLst sr hp (r1.append r2) q k⟩
    | _ => exact q.elim
  | _ => exact q.elim
theorem oA_sub : OpR X (binaryOp .Sub) (low2 X.K T subA) := opA fun x y S R x' y' H Q vx vy sr q k => by
  cases vx with
  | int i =>
    cases vy with
    | int j => exact ⟨_, op_sub, i, j, rfl, rfl, k _ _ q H _ (.refl H) sr (.int _)⟩
    | _ => exact q.elim
  | _ => exact q.elim
theorem oA_mul : OpR X (binaryOp .Mult) (low2 X.K T mulA) := opA fun x y S R x' y' H Q vx vy sr q k => by
  cases vx with
  | int i =>
    cases vy with
    | int j =>
      rcases q.1 with c | c
      · exact ⟨_, op_mul, i, j, rfl, rfl, c, k _ _ q.2 H _ (.refl H) sr (.int _)⟩
      · exact ⟨_, op_mulW, i, j, rfl, rfl, c, k _ _ q.2 H _ (.refl H) sr (.int _)⟩
    | _ => exact q.elim
  | ref a =>
    cases vy with
    | int j =>
      obtain ⟨xs, h1, l1, l2, hz, q⟩ := q
      obtain ⟨xs', e1, r1⟩ := sr.cell a _ h1
      exact ⟨_, op_rep, a, j, xs', rfl, rfl, e1, l1, l2, r1.length ▸ hz, fun p hp => newLst sr hp (r1.rep _) q k⟩
    | _ => exact q.elim
  | _ => exact q.elim
theorem oA_fdiv : OpR X (binaryOp .FloorDiv) (low2 X.K T fdivA) := opA fun x y S R x' y' H Q vx vy sr q k => by
  cases vx with
  | int i =>
    cases vy with
    | int j =>
      rcases q.1 with c | c
      · exact ⟨_, op_fdiv, i, j, rfl, rfl, c, k _ _ q.2 H _ (.refl H) sr (.int _)⟩
      · exact ⟨_, op_fdivW, i, j, rfl, rfl, c, k _ _ q.2 H _ (.refl H) sr (.int _)⟩
    | _ => exact q.elim
  | _ => exact q.elim
theorem oA_mod : OpR X (binaryOp .Mod) (low2 X.K T modA) := opA fun x y S R x' y' H Q vx vy sr q k => by
  cases vx with
  | int i =>
    cases vy with
    | int j => exact ⟨_, op_mod, i, j, rfl, rfl, q.1, k _ _ q.2 H _ (.refl H) sr (.int _)⟩
    | _ => exact q.elim
  | _ => exact q.elim
theorem oA_pow : OpR X (binaryOp .Pow) (low2 X.K T powA) := opA fun x y S R x' y' H Q vx vy sr q k => by
  cases vx with
  | int i =>
    cases vy with
    | int j => exact ⟨_, op_pow, i, j, rfl, rfl, q.1, k _ _ q.2 H _ (.refl H) sr (.int _)⟩
    | _ => exact q.elim
  | _ => exact q.elim
end
/-- -e -/
def aNeg (a : AE) : AE := fun E es S R => a E es S fun x S1 => match x with
  | .int i => R (.int (-i)) S1
  | _ => False
theorem ie_neg {X : Cx} {T : Tb} {W : WX} {e : Expr} {aa : AE} {pos : Pos} (h : IE X T W e aa) : IE X T W (.UnaryOp .USub e pos) (aNeg aa) := ⟨pe_mono (pe_un un_neg h.r) fun σ H Q h => by
  obtain ⟨es, S, E, R, er, sr, xr, h, k⟩ := h
  refine ⟨es, S, E, _, er, sr, xr, h, fun x S1 h1 H1 x' t1 s1 v1 => ?_⟩
  cases v1 with
  | int i => exact ⟨i, rfl, k _ _ h1 H1 _ t1 s1 (.int _)⟩
  | _ => exact h1.elim⟩

/-! ### == and != -/
mutual
inductive DRel (S : Store) : Val → PyData → Prop
  | non : DRel S .non .none
  | bl (b : Bool) : DRel S (.bl b) (.bool b)
  | int (i : Int) : DRel S (.int i) (.int i)
  | str (x : Str) : DRel S (.str x) (.str x)
  | tup {xs : List Val} {ds : List PyData} : DRels S xs ds → DRel S (.tup xs) (.tuple ds)
  | lst {a : Addr} {xs : List Val} {ds : List PyData} : (S a = some (.lst xs) ∨ S a = some (.rd xs)) → DRels S xs ds → DRel S (.ref a) (.list ds)
inductive DRels (S : Store) : List Val → List PyData → Prop
  | nil : DRels S [] []
  | cons {x : Val} {d : PyData} {xs : List Val} {ds : List PyData} : DRel S x d → DRels S xs ds → DRels S (x :: xs) (d :: ds)
end
mutual
theorem DRel.dp {K : PySem.W.Frag} {T : Tb} {S : Store} {H : Hp} (sr : SRep K T S H) : ∀ {x : Val} {d : PyData} {v : V}, DRel S x d → VRep K H x v → Dp K H v d
  | _, _, _, .non, .non => .non
  | _, _, _, .bl b, .bl _ => .bl b
  | _, _, _, .int b, .int _ => .int b
  | _, _, _, .str b, .str _ => .str b
  | _, _, _, .tup r, .tup h q => .tup (.of h) (DRels.dp sr r q)
  | _, _, _, .lst h r, .ref _ => by
    obtain ⟨ys, sq, q⟩ := CRep.sql sr h
    exact .lst sq (DRels.dp sr r q)
theorem DRels.dp {K : PySem.W.Frag} {T : Tb} {S : Store} {H : Hp} (sr : SRep K T S H) : ∀ {x : List Val} {d : List PyData} {v : List V}, DRels S x d → VReps K H x v → DpAll K H v d
  | _, _, _, .nil, .nil => .nil
  | _, _, _, .cons r t, .cons q u => .cons (DRel.dp sr r q) (DRels.dp sr t u)
end
/-- == of scalars of one kind, or None beside one -/
def scalA : Val → Val → Option Bool
  | .int i, .int j => some (decide (i = j))
  | .str i, .str j => some (decide (i = j))
  | .bl i, .bl j => some (decide (i = j))
  | .non, .non => some true
  | .non, .int _ => some false | .int _, .non => some false | .non, .bl _ => some false | .bl _, .non => some false | .non, .str _ => some false | .str _, .non => some false
  | .int _, .str _ => some false | .str _, .int _ => some false | .bl _, .str _ => some false | .str _, .bl _ => some false
  | _, _ => none
theorem scalA_ok {K : PySem.W.Frag} {H : Hp} {x y : Val} {x' y' : V} {b : Bool} (vx : VRep K H x x') (vy : VRep K H y y') (h : scalA x y = some b) : scal x' y' = true ∧ decide (x' = y') = b := by
  cases vx <;> cases vy <;> simp only [scalA, reduceCtorEq, Option.some.injEq] at h <;> subst h <;> refine ⟨rfl, ?_⟩ <;> simp
def eqA : A2 := fun x y S R => match scalA x y with
  | some b => R (.bl b) S
  | none => ∃ d e, DRel S x d ∧ DRel S y e ∧ SeqAt.shaped d = true ∧ SeqAt.shaped e = true ∧ R (.bl (PyData.eqv d e)) S
def neA : A2 := fun x y S R => match scalA x y with
  | some b => R (.bl (!b)) S
  | none => ∃ d e, DRel S x d ∧ DRel S y e ∧ SeqAt.shaped d = true ∧ SeqAt.shaped e = true ∧ R (.bl (!PyData.eqv d e)) S
/-- <, <=, >, >= of ints, of texts -/
def ltA : A2 := fun x y S R => match x, y with
  | .int i, .int j => R (.bl (decide (i < j))) S
  | .str i, .str j => R (.bl (decide (i.cps.toList < j.cps.toList))) S
  | _, _ => False
def leA : A2 := fun x y S R => match x, y with
  | .int i, .int j => R (.bl (decide (i ≤ j))) S
  | .str i, .str j => R (.bl (!decide (j.cps.toList < i.cps.toList))) S
  | _, _ => False
def gtA : A2 := fun x y S R => match x, y with
  | .int i, .int j => R (.bl (decide (j < i))) S
  | .str i, .str j => R (.bl (decide (j.cps.toList < i.cps.toList))) S
  | _, _ => False
def geA : A2 := fun x y S R => match x, y with
  | .int i, .int j => R (.bl (decide (j ≤ i))) S
  | .str i, .str j => R (.bl (!decide (i.cps.toList < j.cps.toList))) S
  | _, _ => False
/-- is, is not: None and bools -/
def isNV : Val → Bool
  | .non => true
  | _ => false
def isA : A2 := fun x y S R => match y with
  | .non => R (.bl (isNV x)) S
  | .bl b => (match x with
    | .bl a => R (.bl (decide (a = b))) S
    | _ => False)
  | _ => False
def isnotA : A2 := fun x y S R => match y with
  | .non => R (.bl (!isNV x)) S
  | .bl b => (match x with
    | .bl a => R (.bl (!decide (a = b))) S
    | _ => False)
  | _ => False
section
variable {X : Cx} {T : Tb}
theorem oA_eq (hu : X.A.units + 64 < cLine) : OpR X (compareOp .Eq) (low2 X.K T eqA) := opA fun x y S R x' y' H Q vx vy sr q k => by
  unfold eqA at q
  split at q
  · rename_i b e
    obtain ⟨h1, h2⟩ := scalA_ok vx vy e
    exact ⟨_, op_eq, h1, by rw [h2]; exact k _ _ q H _ (.refl H) sr (.bl _)⟩
  · obtain ⟨d, e, h1, h2, h3, h4, q⟩ := q
    exact ⟨_, op_eqD hu, d, e, h1.dp sr vx, h2.dp sr vy, h3, h4, k _ _ q H _ (.refl H) sr (.bl _)⟩
theorem oA_ne (hu : X.A.units + 64 < cLine) : OpR X (compareOp .NotEq) (low2 X.K T neA) := opA fun x y S R x' y' H Q vx vy sr q k => by
  unfold neA at q
  split at q
  · rename_i b e
    obtain ⟨h1, h2⟩ := scalA_ok vx vy e
    exact ⟨_, op_ne, h1, by rw [h2]; exact k _ _ q H _ (.refl H) sr (.bl _)⟩
  · obtain ⟨d, e, h1, h2, h3, h4, q⟩ := q
    exact ⟨_, op_neD hu, d, e, h1.dp sr vx, h2.dp sr vy, h3, h4, k _ _ q H _ (.refl H) sr (.bl _)⟩
theorem oA_lt : OpR X (compareOp .Lt) (low2 X.K T ltA) := opA fun x y S R x' y' H Q vx vy sr q k => by
  cases vx with
  | int i =>
    cases vy with
    | int j => exact ⟨_, op_lt, i, j, rfl, rfl, k _ _ q H _ (.refl H) sr (.bl _)⟩
    | _ => exact q.elim
  | str i =>
    cases vy with
    | str j => exact ⟨_, op_lt_str, i, j, rfl, rfl, k _ _ q H _ (.refl H) sr (.bl _)⟩
    | _ => exact q.elim
  | _ => exact q.elim
theorem oA_le : OpR X (compareOp .LtE) (low2 X.K T leA) := opA fun x y S R x' y' H Q vx vy sr q k => by
  cases vx with
  | int i =>
    cases vy with
    | int j => exact ⟨_, op_le, i, j, rfl, rfl, k _ _ q H _ (.refl H) sr (.bl _)⟩
    | _ => exact q.elim
  | str i =>
    cases vy with
    | str j => exact ⟨_, op_le_str, i, j, rfl, rfl, k _ _ q H _ (.refl H) sr (.bl _)⟩
    | _ => exact q.elim
  | _ => exact q.elim
theorem oA_gt : OpR X (compareOp .Gt) (low2 X.K T gtA) := opA fun x y S R x' y' H Q vx vy sr q k => by
  cases vx with
  | int i =>
    cases vy with
    | int j => exact ⟨_, op_gt, i, j, rfl, rfl, k _ _ q H _ (.refl H) sr (.bl _)⟩
    | _ => exact q.elim
  | str i =>
    cases vy with
    | str j => exact ⟨_, op_gt_str, i, j, rfl, rfl, k _ _ q H _ (.refl H) sr (.bl _)⟩
    | _ => exact q.elim
  | _ => exact q.elim
theorem oA_ge : OpR X (compareOp .GtE) (low2 X.K T geA) := opA fun x y S R x' y' H Q vx vy sr q k => by
  cases vx with
  | int i =>
    cases vy with
    | int j => exact ⟨_, op_ge, i, j, rfl, rfl, k _ _ q H _ (.refl H) sr (.bl _)⟩
    | _ => exact q.elim
  | str i =>
    cases vy with
    | str j => exact ⟨_, op_ge_str, i, j, rfl, rfl, k _ _ q H _ (.refl H) sr (.bl _)⟩
    | _ => exact q.elim
  | _ => exact q.elim
theorem isNV_ok {K : PySem.W.Frag} {H : Hp} {x : Val} {x' : V} (vx : VRep K H x x') : decide (x' = .non) = isNV x := by
  cases vx <;> simp [isNV]
theorem oA_is : OpR X (compareOp .Is) (low2 X.K T isA) := opA fun x y S R x' y' H Q vx vy sr q k => by
  cases vy with
  | non => exact ⟨_, op_isN, rfl, by rw [isNV_ok vx]; exact k _ _ q H _ (.refl H) sr (.bl _)⟩
  | bl b =>
    cases vx with
    | bl a => exact ⟨_, op_isBl, a, b, rfl, rfl, k _ _ q H _ (.refl H) sr (.bl _)⟩
    | _ => exact q.elim
  | _ => exact q.elim
theorem oA_isnot : OpR X (compareOp .IsNot) (low2 X.K T isnotA) := opA fun x y S R x' y' H Q vx vy sr q k => by
  cases vy with
  | non => exact ⟨_, op_notN, rfl, by rw [isNV_ok vx]; exact k _ _ q H _ (.refl H) sr (.bl _)⟩
  | bl b =>
    cases vx with
    | bl a => exact ⟨_, op_notBl, a, b, rfl, rfl, k _ _ q H _ (.refl H) sr (.bl _)⟩
    | _ => exact q.elim
  | _ => exact q.elim
end
end A3

set_option Elab.async false
set_option linter.all false
set_option maxRecDepth 100000
set_option maxHeartbeats 4000000
namespace A3
open PySem PySem.Spec PyProof.Rows L2

/-! ### flat values: in, not in -/
def flat : Val → Bool
  | .non => true
  | .bl _ => true
  | .int _ => true
  | .str _ => true
  | _ => false
def eqF : Val → Val → Bool
  | .non, .non => true
  | .bl a, .bl b => a == b
  | .bl a, .int b => (if a then 1 else 0) == b
  | .int a, .bl b => a == (if b then 1 else 0)
  | .int a, .int b => a == b
  | .str a, .str b => a == b
  | _, _ => false
theorem flat_ok {K : PySem.W.Frag} {H : Hp} {x : Val} {x' : V} (v : VRep K H x x') (f : flat x = true) : flatV x' = true := by
  cases v <;> first | rfl | exact absurd f Bool.false_ne_true
theorem flats_ok {K : PySem.W.Frag} {H : Hp} : ∀ {xs : List Val} {ys : List V}, VReps K H xs ys → xs.all flat = true → ys.all flatV = true
  | _, _, .nil, _ => rfl
  | _, _, .cons r t, f => by
    rw [List.all_cons, Bool.and_eq_true] at f ⊢
    exact ⟨flat_ok r f.1, flats_ok t f.2⟩
theorem eqF_ok {K : PySem.W.Frag} {H : Hp} {x y : Val} {x' y' : V} (v : VRep K H x x') (u : VRep K H y y') (f : flat x = true) (g : flat y = true) : eqV x' y' = eqF x y := by
  cases v <;> cases u <;> first | rfl | exact absurd f Bool.false_ne_true | exact absurd g Bool.false_ne_true
def inF (x : Val) (xs : List Val) : Bool := xs.any fun y => eqF y x
theorem inF_ok {K : PySem.W.Frag} {H : Hp} {x : Val} {x' : V} (v : VRep K H x x') (f : flat x = true) : ∀ {xs : List Val} {ys : List V}, VReps K H xs ys → xs.all flat = true → inV x' ys = inF x xs
  | _, _, .nil, _ => rfl
  | _, _, .cons r t, g => by
    rw [List.all_cons, Bool.and_eq_true] at g
    have ih := inF_ok v f t g.2
    unfold inV inF at ih ⊢
    rw [List.any_cons, List.any_cons, ih, eqF_ok r v g.1 f]
/-- keys -/
def keyA : Val → Option Key
  | .int i => some (.inl i)
  | .str x => some (.inr x)
  | _ => none
def keysA : List Val → Option (List Key)
  | [] => some []
  | x :: xs => match keyA x, keysA xs with
    | some k, some ks => some (k :: ks)
    | _, _ => none
theorem keyA_ok {K : PySem.W.Frag} {H : Hp} {x : Val} {x' : V} {k : Key} (v : VRep K H x x') (h : keyA x = some k) : x' = kV k := by
  cases v <;> simp only [keyA, reduceCtorEq, Option.some.injEq] at h <;> subst h <;> rfl
theorem keysA_ok {K : PySem.W.Frag} {H : Hp} : ∀ {xs : List Val} {ys : List V} {ks : List Key}, VReps K H xs ys → keysA xs = some ks → ys = ks.map kV
  | _, _, _, .nil, h => by
    simp only [keysA, Option.some.injEq] at h
    subst h; rfl
  | _, _, _, .cons r t, h => by
    unfold keysA at h
    split at h
    · rename_i k ks h1 h2
      cases h
      rw [List.map_cons, ← keysA_ok t h2, keyA_ok r h1]
    · cases h
section
variable {κ : Type} [DecidableEq κ]
def valA (kvs : List (κ × Val)) (k : κ) : Option Val := (kvs.find? fun kv => decide (kv.1 = k)).map (·.2)
def putA (kvs : List (κ × Val)) (k : κ) (v : Val) : List (κ × Val) :=
  if (kvs.any fun kv => decide (kv.1 = k)) = true then kvs.map fun kv => if kv.1 = k then (kv.1, v) else kv else kvs ++ [(k, v)]
theorem PReps.val {K : PySem.W.Frag} {H : Hp} {k : κ} : ∀ {xs : List (κ × Val)} {ys : List (κ × V)}, PReps K H xs ys → (valA xs k = none ∧ valV ys k = none) ∨ ∃ x y, valA xs k = some x ∧ valV ys k = some y ∧ VRep K H x y
  | _, _, .nil => .inl ⟨rfl, rfl⟩
  | _, _, @PReps.cons _ _ _ j x y _ _ r t => by
    by_cases e : j = k
    · exact .inr ⟨x, y, by unfold valA; rw [List.find?_cons_of_pos (by simpa using e)]; rfl, by unfold valV; rw [List.find?_cons_of_pos (by simpa using e)]; rfl, r⟩
    · unfold valA valV
      rw [List.find?_cons_of_neg (by simpa using e), List.find?_cons_of_neg (by simpa using e)]
      exact PReps.val t
theorem PReps.any {K : PySem.W.Frag} {H : Hp} {k : κ} : ∀ {xs : List (κ × Val)} {ys : List (κ × V)}, PReps K H xs ys → (xs.any fun kv => decide (kv.1 = k)) = (ys.any fun kv => decide (kv.1 = k))
  | _, _, .nil => rfl
  | _, _, .cons r t => by rw [List.any_cons, List.any_cons, PReps.any t]
theorem PReps.map {K : PySem.W.Frag} {H : Hp} {k : κ} {v : Val} {v' : V} (q : VRep K H v v') : ∀ {xs : List (κ × Val)} {ys : List (κ × V)}, PReps K H xs ys → PReps K H (xs.map fun kv => if kv.1 = k then (kv.1, v) else kv) (ys.map fun kv => if kv.1 = k then (kv.1, v') else kv)
  | _, _, .nil => .nil
  | _, _, @PReps.cons _ _ _ j x y _ _ r t => by
    rw [List.map_cons, List.map_cons]
    by_cases e : j = k
    · rw [if_pos e, if_pos e]; exact .cons q (PReps.map q t)
    · rw [if_neg e, if_neg e]; exact .cons r (PReps.map q t)
theorem PReps.append {K : PySem.W.Frag} {H : Hp} : ∀ {xs xs' : List (κ × Val)} {ys ys' : List (κ × V)}, PReps K H xs ys → PReps K H xs' ys' → PReps K H (xs ++ xs') (ys ++ ys')
  | _, _, _, _, .nil, s => s
  | _, _, _, _, .cons r t, s => .cons r (PReps.append t s)
theorem PReps.put {K : PySem.W.Frag} {H : Hp} {k : κ} {v : Val} {v' : V} {xs : List (κ × Val)} {ys : List (κ × V)} (r : PReps K H xs ys) (q : VRep K H v v') : PReps K H (putA xs k v) (putK ys k v') := by
  unfold putA putK
  rw [r.any]
  split
  · exact r.map q
  · exact r.append (.cons q .nil)
end
/-- what the dict at a cell holds at a value -/
def getD? : Cell → Val → Option (Option Val)
  | .dk kvs, x => (keyA x).map (valA kvs)
  | .dt kvs, .tup xs => (keysA xs).map (valA kvs)
  | _, _ => none
theorem getD_ok {K : PySem.W.Frag} {T : Tb} {S : Store} {H : Hp} {p : Addr} {c : Cell} {x : Val} {x' : V} {o : Option Val} (sr : SRep K T S H) (hc : S p = some c) (vx : VRep K H x x') (h : getD? c x = some o) :
    ∃ o', DGet H p x' o' ∧ ((o = none ∧ o' = none) ∨ ∃ y y', o = some y ∧ o' = some y' ∧ VRep K H y y') := by
  have cr := sr.cell p c hc
  cases c with
  | dk kvs =>
    obtain ⟨ys, e, r⟩ := cr
    simp only [getD?, Option.map_eq_some_iff] at h
    obtain ⟨k, hk, ho⟩ := h
    rw [keyA_ok vx hk]
    refine ⟨valV ys k, .k e, ?_⟩
    rcases r.val (k := k) with ⟨h1, h2⟩ | ⟨x, y, h1, h2, h3⟩
    · exact .inl ⟨ho ▸ h1, h2⟩
    · exact .inr ⟨x, y, ho ▸ h1, h2, h3⟩
  | dt kvs =>
    obtain ⟨ys, e, r⟩ := cr
    cases vx with
    | tup hp rs =>
      simp only [getD?, Option.map_eq_some_iff] at h
      obtain ⟨ks, hk, ho⟩ := h
      have e2 := keysA_ok rs hk
      subst e2
      refine ⟨valV ys ks, .t e hp, ?_⟩
      rcases r.val (k := ks) with ⟨h1, h2⟩ | ⟨x, y, h1, h2, h3⟩
      · exact .inl ⟨ho ▸ h1, h2⟩
      · exact .inr ⟨x, y, ho ▸ h1, h2, h3⟩
    | _ => cases h
  | _ => cases h
/-- one sign -/
def signOf (x : Str) : Option Nat := match x.cps with
  | ⟨[c]⟩ => some c
  | _ => none
theorem signOf_ok {x : Str} {c : Nat} (h : signOf x = some c) : x = ⟨#[c]⟩ := by
  obtain ⟨⟨l⟩⟩ := x
  unfold signOf at h
  split at h
  · rename_i d e
    cases h
    simp only at e
    rw [e]
  · cases h
def inA : A2 := fun x y S R => match y with
  | .str b => (match x with
    | .str a => ∃ c, signOf a = some c ∧ R (.bl (decide (c ∈ b.cps.toList))) S
    | _ => False)
  | .tup ys => flat x = true ∧ ys.all flat = true ∧ R (.bl (inF x ys)) S
  | .ref p => (match S p with
    | some (.lst ys) => flat x = true ∧ ys.all flat = true ∧ R (.bl (inF x ys)) S
    | some (.rd ys) => flat x = true ∧ ys.all flat = true ∧ R (.bl (inF x ys)) S
    | some (.ft ys) => flat x = true ∧ ys.all flat = true ∧ R (.bl (inF x ys)) S
    | some c => ∃ o, getD? c x = some o ∧ R (.bl o.isSome) S
    | none => False)
  | _ => False
def notinA : A2 := fun x y S R => inA x y S fun v S' => match v with
  | .bl b => R (.bl (!b)) S'
  | _ => False
section
variable {X : Cx} {T : Tb}
theorem op_inD (hu : X.A.units + 1 < cLine) : OpR X (compareOp .In) (fun y x H Q => ∃ a o, x = .ref a ∧ DGet H a y o ∧ Q (.bl o.isSome) H) := fun pins s σ H y x u v Q I ry rx ⟨a, o, e, g, q⟩ => by
  subst e; cases rx
  exact d_in hu I g ry fun s' I' => ⟨.bl _, _, I', rfl, q⟩
theorem op_notInD (hu : X.A.units + 1 < cLine) : OpR X (compareOp .NotIn) (fun y x H Q => ∃ a o, x = .ref a ∧ DGet H a y o ∧ Q (.bl (!o.isSome)) H) := fun pins s σ H y x u v Q I ry rx ⟨a, o, e, g, q⟩ => by
  subst e; cases rx
  exact d_notIn hu I g ry fun s' I' => ⟨.bl _, _, I', rfl, q⟩
theorem isSome_of {K : PySem.W.Frag} {H : Hp} {o : Option Val} {o' : Option V} (h : (o = none ∧ o' = none) ∨ ∃ y y', o = some y ∧ o' = some y' ∧ VRep K H y y') : o'.isSome = o.isSome := by
  rcases h with ⟨h1, h2⟩ | ⟨y, y', h1, h2, _⟩ <;> rw [h1, h2] <;> rfl
theorem oA_in (hu : X.A.units + 1 < cLine) : OpR X (compareOp .In) (low2 X.K T inA) := opA fun x y S R x' y' H Q vx vy sr q k => by
  cases vy with
  | str b =>
    cases vx with
    | str a =>
      obtain ⟨c, hc, q⟩ := q
      rw [signOf_ok hc]
      exact ⟨_, op_in_sign, c, b, rfl, rfl, k _ _ q H _ (.refl H) sr (.bl _)⟩
    | _ => exact q.elim
  | @tup p ys ys' h r =>
    obtain ⟨f, g, q⟩ := q
    exact ⟨_, op_in_seq, p, ys', rfl, .inr (.of h), flat_ok vx f, flats_ok r g, by rw [inF_ok vx f r g]; exact k _ _ q H _ (.refl H) sr (.bl _)⟩
  | ref p =>
    unfold inA at q
    simp only at q
    split at q
    · rename_i ys e
      obtain ⟨f, g, q⟩ := q
      obtain ⟨zs, sq, r⟩ := CRep.sql sr (.inl e)
      exact ⟨_, op_in_seq, p, zs, rfl, .inl sq, flat_ok vx f, flats_ok r g, by rw [inF_ok vx f r g]; exact k _ _ q H _ (.refl H) sr (.bl _)⟩
    · rename_i ys e
      obtain ⟨f, g, q⟩ := q
      obtain ⟨zs, sq, r⟩ := CRep.sql sr (.inr e)
      exact ⟨_, op_in_seq, p, zs, rfl, .inl sq, flat_ok vx f, flats_ok r g, by rw [inF_ok vx f r g]; exact k _ _ q H _ (.refl H) sr (.bl _)⟩
    · rename_i ys e
      obtain ⟨f, g, q⟩ := q
      obtain ⟨ob, zs, eq, _, r⟩ := sr.cell p _ e
      exact ⟨_, op_in_seq, p, zs, rfl, .inr (.inl (.inr ⟨ob, eq⟩)), flat_ok vx f, flats_ok r g, by rw [inF_ok vx f r g]; exact k _ _ q H _ (.refl H) sr (.bl _)⟩
    · rename_i c e
      obtain ⟨o, ho, q⟩ := q
      obtain ⟨o', g, h⟩ := getD_ok sr e vx ho
      exact ⟨_, op_inD hu, p, o', rfl, g, by rw [isSome_of h]; exact k _ _ q H _ (.refl H) sr (.bl _)⟩
    · exact q.elim
  | _ => exact q.elim
theorem oA_notin (hu : X.A.units + 1 < cLine) : OpR X (compareOp .NotIn) (low2 X.K T notinA) := opA fun x y S R x' y' H Q vx vy sr q k => by
  cases vy with
  | str b =>
    cases vx with
    | str a =>
      obtain ⟨c, hc, q⟩ := q
      rw [signOf_ok hc]
      exact ⟨_, op_notIn_sign, c, b, rfl, rfl, k _ _ q H _ (.refl H) sr (.bl _)⟩
    | _ => exact q.elim
  | @tup p ys ys' h r =>
    obtain ⟨f, g, q⟩ := q
    exact ⟨_, op_notIn_seq, p, ys', rfl, .inr (.of h), flat_ok vx f, flats_ok r g, by rw [inF_ok vx f r g]; exact k _ _ q H _ (.refl H) sr (.bl _)⟩
  | ref p =>
    unfold notinA inA at q
    simp only at q
    split at q
    · rename_i ys e
      obtain ⟨f, g, q⟩ := q
      obtain ⟨zs, sq, r⟩ := CRep.sql sr (.inl e)
      exact ⟨_, op_notIn_seq, p, zs, rfl, .inl sq, flat_ok vx f, flats_ok r g, by rw [inF_ok vx f r g]; exact k _ _ q H _ (.refl H) sr (.bl _)⟩
    · rename_i ys e
      obtain ⟨f, g, q⟩ := q
      obtain ⟨zs, sq, r⟩ := CRep.sql sr (.inr e)
      exact ⟨_, op_notIn_seq, p, zs, rfl, .inl sq, flat_ok vx f, flats_ok r g, by rw [inF_ok vx f r g]; exact k _ _ q H _ (.refl H) sr (.bl _)⟩
    · rename_i ys e
      obtain ⟨f, g, q⟩ := q
      obtain ⟨ob, zs, eq, _, r⟩ := sr.cell p _ e
      exact ⟨_, op_notIn_seq, p, zs, rfl, .inr (.inl (.inr ⟨ob, eq⟩)), flat_ok vx f, flats_ok r g, by rw [inF_ok vx f r g]; exact k _ _ q H _ (.refl H) sr (.bl _)⟩
    · rename_i c e
      obtain ⟨o, ho, q⟩ := q
      obtain ⟨o', g, h⟩ := getD_ok sr e vx ho
      exact ⟨_, op_notInD hu, p, o', rfl, g, by rw [isSome_of h]; exact k _ _ q H _ (.refl H) sr (.bl _)⟩
    · exact q.elim
  | _ => exact q.elim
end

/-! ### subscripts -/
def ixA : A2 := fun x y S R => match x, y with
  | .tup xs, .int i => ∃ v, atI xs i = some v ∧ R v S
  | .str z, .int i => ∃ c, z.length ≤ sizeLine ∧ atI z.cps.toList i = some c ∧ R (.str ⟨#[c]⟩) S
  | .ref p, .int i => ∃ xs v, (S p = some (.lst xs) ∨ S p = some (.rd xs)) ∧ atI xs i = some v ∧ R v S
  | _, _ => False
def dgetA : A2 := fun x y S R => match x with
  | .ref p => ∃ c v, S p = some c ∧ getD? c y = some (some v) ∧ R v S
  | _ => False
theorem atI_rep {K : PySem.W.Frag} {H : Hp} {xs : List Val} {ys : List V} {i : Int} {v : Val} (r : VReps K H xs ys) (h : atI xs i = some v) : ∃ v', atI ys i = some v' ∧ VRep K H v v' := by
  unfold atI at h ⊢
  rw [← r.length]
  cases e : ixN xs.length i with
  | none => rw [e] at h; cases h
  | some j =>
    rw [e] at h
    exact r.get h
section
variable {X : Cx} {T : Tb} {W : WX} {a b : Expr} {aa ab : AE} {pos : Pos}
theorem ie_ix (ha : IE X T W a aa) (hb : IE X T W b ab) (hs : PlainIx b := by exact fun _ _ => rfl) : IE X T W (.Subscript a b pos) (aOp ixA aa ab) := ⟨pe_mono (pe_ix ix_seq ha.r hb.r hs) fun σ H Q h => by
  obtain ⟨es, S, E, R, er, sr, xr, h1, h2⟩ := low_two h
  refine ⟨es, S, E, R, er, sr, xr, h1, fun x S1 hx H1 x' t1 s1 v1 => ?_⟩
  obtain ⟨es', S', E', R', er', sr', xr', h3, h4⟩ := h2 x S1 hx H1 x' t1 s1 v1
  refine ⟨es', S', E', R', er', sr', xr', h3, fun y S2 hy H2 y' t2 s2 v2 => ?_⟩
  obtain ⟨u, w, S3, R3, vu, vw, s3, q, k⟩ := h4 y S2 hy H2 y' t2 s2 v2
  cases vu with
  | tup hp r =>
    cases vw with
    | int i =>
      obtain ⟨v, hv, q⟩ := q
      obtain ⟨v', hv', rv⟩ := atI_rep r hv
      exact .inr (.inl ⟨_, _, i, v', rfl, rfl, .of hp, hv', k _ _ q _ _ (.refl _) s3 rv⟩)
    | _ => exact q.elim
  | str z =>
    cases vw with
    | int i =>
      obtain ⟨c, hz, hv, q⟩ := q
      exact .inr (.inr ⟨z, i, c, rfl, rfl, hz, hv, k _ _ q _ _ (.refl _) s3 (.str _)⟩)
    | _ => exact q.elim
  | ref p =>
    cases vw with
    | int i =>
      obtain ⟨xs, v, hp, hv, q⟩ := q
      obtain ⟨ys, sq, r⟩ := CRep.sql s3 hp
      obtain ⟨v', hv', rv⟩ := atI_rep r hv
      exact .inl ⟨p, ys, i, v', rfl, rfl, sq, hv', k _ _ q _ _ (.refl _) s3 rv⟩
    | _ => exact q.elim
  | _ => exact q.elim⟩
theorem ie_dget (hu : X.A.units + 1 < cLine) (ha : IE X T W a aa) (hb : IE X T W b ab) (hs : NoSl b := by exact fun _ _ => rfl) : IE X T W (.Subscript a b pos) (aOp dgetA aa ab) := ⟨pe_mono (pe_dget hu ha.r hb.r hs) fun σ H Q h => by
  obtain ⟨es, S, E, R, er, sr, xr, h1, h2⟩ := low_two h
  refine ⟨es, S, E, R, er, sr, xr, h1, fun x S1 hx H1 x' t1 s1 v1 => ?_⟩
  obtain ⟨es', S', E', R', er', sr', xr', h3, h4⟩ := h2 x S1 hx H1 x' t1 s1 v1
  refine ⟨es', S', E', R', er', sr', xr', h3, fun y S2 hy H2 y' t2 s2 v2 => ?_⟩
  obtain ⟨u, w, S3, R3, vu, vw, s3, q, k⟩ := h4 y S2 hy H2 y' t2 s2 v2
  cases vu with
  | ref p =>
    obtain ⟨c, v, hc, hg, q⟩ := q
    obtain ⟨o', g, h⟩ := getD_ok s3 hc vw hg
    rcases h with ⟨h, _⟩ | ⟨y1, y2, h1, h2, h3⟩
    · cases h
    · cases h1
      subst h2
      exact ⟨p, y2, rfl, g, k _ _ q _ _ (.refl _) s3 h3⟩
  | _ => exact q.elim⟩
end
/-! ### slices -/
def cutA (xs : List Val) (lo hi : Option Int) : List Val := (xs.drop (HT.sIx xs.length 0 lo)).take (HT.sIx xs.length xs.length hi - HT.sIx xs.length 0 lo)
theorem cutA_ok {K : PySem.W.Frag} {H : Hp} {xs : List Val} {ys : List V} (r : VReps K H xs ys) (lo hi : Option Int) : VReps K H (cutA xs lo hi) (cutV ys lo hi) := by
  unfold cutA cutV
  rw [r.length]
  exact (r.drop _).take _
abbrev AO := AX → AEnv → Store → (Option Int → Store → Prop) → Prop
def oNone : AO := fun _ _ S R => R none S
def oSome (a : AE) : AO := fun E es S R => a E es S fun x S1 => match x with
  | .int i => R (some i) S1
  | _ => False
def lowO (K : PySem.W.Frag) (T : Tb) (W : WX) (a : AO) : TO := fun σ H Q => ∃ (es : AEnv) (S : Store) (E : AX) (R : Option Int → Store → Prop), ERep K H es σ ∧ SRep K T S H ∧ XRep K T W H E σ ∧ a E es S R ∧
  ∀ v S', R v S' → ∀ H', TupX K H H' → SRep K T S' H' → Q v H'
structure IO (X : Cx) (T : Tb) (W : WX) (e : Option Expr) (a : AO) : Prop where
  r : PO X e (lowO X.K T W a)
def slA (x : Val) (lo hi : Option Int) (S : Store) (R : AK) : Prop := match x with
  | .tup xs => R (.tup (cutA xs lo hi)) S
  | .str z => z.length ≤ sizeLine ∧ R (.str (Txt.slice z lo hi)) S
  | .ref a => ∃ xs, (S a = some (.lst xs) ∨ S a = some (.rd xs)) ∧ ∀ p, S p = none → R (.ref p) (ups S p (.lst (cutA xs lo hi)))
  | _ => False
def aSl (a : AE) (lo hi : AO) : AE := fun E es S R => a E es S fun x S1 => lo E es S1 fun l S2 => hi E es S2 fun h S3 => slA x l h S3 R
section
variable {X : Cx} {T : Tb} {W : WX} {e : Expr} {aa : AE} {lo hi : Option Expr} {al ah : AO} {pos p2 : Pos}
theorem io_none : IO X T W none oNone := ⟨⟨fun pins s σ H Q I h => by
  obtain ⟨es, S, E, R, er, sr, xr, h, k⟩ := h
  exact po_none.run pins s σ H Q I (k _ _ h H (.refl H) sr)⟩⟩
theorem io_some (h : IE X T W e aa) : IO X T W (some e) (oSome aa) := ⟨⟨fun pins s σ H Q I hh => by
  obtain ⟨es, S, E, R, er, sr, xr, hh, k⟩ := hh
  refine (po_some h.r).run pins s σ H Q I ⟨es, S, E, _, er, sr, xr, hh, fun x S1 h1 H1 x' t1 s1 v1 => ?_⟩
  cases v1 with
  | int i => exact ⟨i, rfl, k _ _ h1 H1 t1 s1⟩
  | _ => exact h1.elim⟩⟩
theorem cut_whole {xs : List V} {lo hi : Option Int} (h : HT.sIx xs.length 0 lo = 0 ∧ HT.sIx xs.length xs.length hi = xs.length) : cutV xs lo hi = xs := by
  unfold cutV
  rw [h.1, h.2]
  simp
theorem ie_sl (ha : IE X T W e aa) (hl : IO X T W lo al) (hh : IO X T W hi ah) : IE X T W (.Subscript e (.Slice lo hi none p2) pos) (aSl aa al ah) :=
  ⟨pe_mono (pe_slice (SlR.or sl_tupA (SlR.or sl_list C8.sl_txt)) ha.r hl.r hh.r) fun σ H Q h => by
    obtain ⟨es, S, E, R, er, sr, xr, h, k⟩ := h
    refine ⟨es, S, E, _, er, sr, xr, h, fun x S1 h1 H1 x' t1 s1 v1 => ⟨es, S1, E, _, er.ext t1, s1, xr.ext t1, h1, fun l S2 h2 H2 t2 s2 => ⟨es, S2, E, _, er.ext (t1.trans t2), s2, xr.ext (t1.trans t2), h2, fun u S3 h3 H3 t3 s3 => ?_⟩⟩⟩
    have v3 := v1.ext (t2.trans t3)
    have tt := (t1.trans t2).trans t3
    cases v3 with
    | @tup p xs ys hp r =>
      refine .inl ⟨p, ys, rfl, .of hp, fun w => ?_, fun _ q hq => ?_⟩
      · refine k _ _ h3 _ _ tt s3 (.tup hp ?_)
        have e := cutA_ok r l u
        rw [cut_whole w] at e
        exact e
      · exact newTup s3 hq (cutA_ok r l u) h3 fun v S' hv H' v' t s r => k _ _ hv _ _ (tt.trans t) s r
    | str z => exact .inr (.inr ⟨z, rfl, h3.1, k _ _ h3.2 _ _ tt s3 (.str _)⟩)
    | ref a =>
      obtain ⟨xs, hs, h3⟩ := h3
      obtain ⟨ys, sq, r⟩ := CRep.sql s3 hs
      exact .inr (.inl ⟨a, ys, rfl, sq, fun q hq => newLst s3 hq (cutA_ok r l u) h3 fun v S' hv H' v' t s r => k _ _ hv _ _ (tt.trans t) s r⟩)
    | _ => exact h3.elim⟩
/-- xs[::-1] of a list -/
def aRev (a : AE) : AE := fun E es S R => a E es S fun x S1 => match x with
  | .ref a => ∃ xs, (S1 a = some (.lst xs) ∨ S1 a = some (.rd xs)) ∧ ∀ p, S1 p = none → R (.ref p) (ups S1 p (.lst xs.reverse))
  | _ => False
theorem ie_rev {k : Nat} {p1 p2 p3 pos : Pos} (h : IE X T W e aa) : IE X T W (.Subscript e (.Slice none none (some (.UnaryOp .USub (.Constant (.int 1) k p1) p2)) p3) pos) (aRev aa) := ⟨pe_mono (pe_revL h.r) fun σ H Q h => by
  obtain ⟨es, S, E, R, er, sr, xr, h, k⟩ := h
  refine ⟨es, S, E, _, er, sr, xr, h, fun x S1 h1 H1 x' t1 s1 v1 => ?_⟩
  cases v1 with
  | ref a =>
    obtain ⟨xs, hs, h3⟩ := h1
    obtain ⟨ys, sq, r⟩ := CRep.sql s1 hs
    exact ⟨a, ys, rfl, sq, fun q hq => newLst s1 hq r.reverse h3 fun v S' hv H' v' t s r => k _ _ hv _ _ (t1.trans t) s r⟩
  | _ => exact h1.elim⟩
end
end A3

set_option Elab.async false
set_option linter.all false
set_option maxRecDepth 100000
set_option maxHeartbeats 4000000
namespace A3
open PySem PySem.Spec PyProof.Rows L2

/-! ### calls of built-ins by values -/
abbrev AC := List Val → Store → AK → Prop
def lowC (K : PySem.W.Frag) (T : Tb) (r : AC) : List V → Hp → VK → Prop := fun xs' H Q => ∃ xs S R, VReps K H xs xs' ∧ SRep K T S H ∧ r xs S R ∧ ∀ v S', R v S' → ∀ H' v', TupX K H H' → SRep K T S' H' → VRep K H' v v' → Q v' H'
def aCB (r : AC) (t : AA) : AE := fun E es S R => t E es S fun xs S1 => r xs S1 R
section
variable {X : Cx} {T : Tb} {W : WX} {x : Str} {p pos : Pos} {e : Expr} {es : List Expr} {t : AA} {id Ty : String} {r : AC}
theorem callA {f : Value} {r : AC} (h : ∀ (xs : List Val) (S : Store) (R : AK) (xs' : List V) (H : Hp) (Q : VK), VReps X.K H xs xs' → SRep X.K T S H → r xs S R →
    (∀ v S', R v S' → ∀ H' v', TupX X.K H H' → SRep X.K T S' H' → VRep X.K H' v v' → Q v' H') → ∃ r' : List V → Hp → VK → Prop, CallR X f r' ∧ r' xs' H Q) : CallR X f (lowC X.K T r) := by
  intro pins s σ H xs' us Q I rv ⟨xs, S, R, vx, sr, q, k⟩
  obtain ⟨r', hc, hq⟩ := h xs S R xs' H Q vx sr q k
  exact hc pins s σ H xs' us Q I rv hq
theorem low_cb {K : PySem.W.Frag} {σ : St} {H : Hp} {Q : VK} (h : lowE K T W (aCB r t) σ H Q) : tCB (lowC K T r) (lowA K T W t) σ H Q := by
  obtain ⟨es, S, E, R, er, sr, xr, h, k⟩ := h
  exact ⟨es, S, E, _, er, sr, xr, h, fun xs S1 h1 H1 xs' t1 s1 v1 => ⟨xs, S1, R, v1, s1, h1, fun v S' hv H' v' t s q => k _ _ hv _ _ (t1.trans t) s q⟩⟩
theorem ie_callB (hc : CallR X (.builtin id) (lowC X.K T r)) (hg : Gl X x) (hm : X.mg x = none) (hv : bootBuiltins x = some (.builtin id)) (ha : IA X T W (e :: es) t) (hn : x ≠ "__name__" := by decide) (hdb : (x == ("__debug__" : Str)) = false := by decide)
    (he : starEach (e :: es) X.env = (false, eval e X.env) :: starEach es X.env := by rfl) (hpl : (backTo pos (starEach es X.env)).any (·.1) = false := by rfl) : IE X T W (.Call (.Name x p) (e :: es) [] pos) (aCB r t) :=
  ⟨pe_mono (pe_callB hc hg hm hv ha.r hn hdb he hpl) fun σ H Q h => low_cb h⟩
theorem ie_callTy (hc : CallR X (.type Ty) (lowC X.K T r)) (hg : Gl X x) (hm : X.mg x = none) (hv : bootBuiltins x = some (.type Ty)) (ha : IA X T W (e :: es) t) (hn : x ≠ "__name__" := by decide) (hdb : (x == ("__debug__" : Str)) = false := by decide)
    (he : starEach (e :: es) X.env = (false, eval e X.env) :: starEach es X.env := by rfl) (hpl : (backTo pos (starEach es X.env)).any (·.1) = false := by rfl) : IE X T W (.Call (.Name x p) (e :: es) [] pos) (aCB r t) :=
  ⟨pe_mono (pe_callTy hc hg hm hv ha.r hn hdb he hpl) fun σ H Q h => low_cb h⟩
end
def lenC : AC := fun xs S R => match xs with
  | [.str z] => z.length ≤ sizeLine ∧ R (.int z.length) S
  | [.tup ys] => R (.int ys.length) S
  | [.ref p] => (match S p with
    | some (.lst ys) => R (.int ys.length) S
    | some (.rd ys) => R (.int ys.length) S
    | some (.dk ys) => R (.int ys.length) S
    | some (.dt ys) => R (.int ys.length) S
    | _ => False)
  | _ => False
def absC : AC := fun xs S R => match xs with
  | [.int i] => R (.int (if i < 0 then -i else i)) S
  | _ => False
def intC : AC := fun xs S R => match xs with
  | [.int i] => R (.int i) S
  | [.bl k] => R (.int (if k then 1 else 0)) S
  | _ => False
def max2C : AC := fun xs S R => match xs with
  | [.int i, .int j] => R (.int (if j > i then j else i)) S
  | _ => False
def min2C : AC := fun xs S R => match xs with
  | [.int i, .int j] => R (.int (if j < i then j else i)) S
  | _ => False
/-- of a list of ints -/
def sumC : AC := fun xs S R => match xs with
  | [.ref p] => ∃ ns : List Int, (S p = some (.lst (ns.map .int)) ∨ S p = some (.rd (ns.map .int))) ∧ R (.int ns.sum) S
  | _ => False
def maxC : AC := fun xs S R => match xs with
  | [.ref p] => ∃ ns : List Int, (S p = some (.lst (ns.map .int)) ∨ S p = some (.rd (ns.map .int))) ∧ 0 < ns.length ∧ ∀ m, m ∈ ns → (∀ y, y ∈ ns → y ≤ m) → R (.int m) S
  | _ => False
def minC : AC := fun xs S R => match xs with
  | [.ref p] => ∃ ns : List Int, (S p = some (.lst (ns.map .int)) ∨ S p = some (.rd (ns.map .int))) ∧ 0 < ns.length ∧ ∀ m, m ∈ ns → (∀ y, y ∈ ns → m ≤ y) → R (.int m) S
  | _ => False
def anyC : AC := fun xs S R => match xs with
  | [.ref p] => ∃ bs : List Bool, (S p = some (.lst (bs.map .bl)) ∨ S p = some (.rd (bs.map .bl))) ∧ R (.bl (bs.any id)) S
  | _ => False
def allC : AC := fun xs S R => match xs with
  | [.ref p] => ∃ bs : List Bool, (S p = some (.lst (bs.map .bl)) ∨ S p = some (.rd (bs.map .bl))) ∧ R (.bl (bs.all id)) S
  | _ => False
/-- list(x), tuple(x) of a list, a tuple -/
def listC : AC := fun xs S R => match xs with
  | [.tup ys] => ∀ p, S p = none → R (.ref p) (ups S p (.lst ys))
  | [.ref q] => ∃ ys, (S q = some (.lst ys) ∨ S q = some (.rd ys)) ∧ ∀ p, S p = none → R (.ref p) (ups S p (.lst ys))
  | _ => False
def tupC : AC := fun xs S R => match xs with
  | [.tup ys] => R (.tup ys) S
  | [.ref q] => ∃ ys, (S q = some (.lst ys) ∨ S q = some (.rd ys)) ∧ R (.tup ys) S
  | _ => False
/-- sorted of texts: a list, a dict's keys -/
def sortedSC : AC := fun xs S R => match xs with
  | [.ref p] => ∃ ks : List Str, ((S p = some (.lst (ks.map .str)) ∨ S p = some (.rd (ks.map .str))) ∨ ∃ kvs, S p = some (.dk kvs) ∧ kvs.map (·.1) = ks.map Sum.inr) ∧ ks.length < 64 ∧
      ∀ (ys : List Str) (q : Addr), ys.Perm ks → sortedS ys = true → S q = none → R (.ref q) (ups S q (.lst (ys.map .str)))
  | _ => False
theorem VReps.ints {K : PySem.W.Frag} {H : Hp} : ∀ {ns : List Int} {ys : List V}, VReps K H (ns.map .int) ys → ys = ns.map V.int
  | [], _, .nil => rfl
  | _ :: _, _, .cons (.int _) t => by rw [List.map_cons, VReps.ints t]
theorem VReps.bls {K : PySem.W.Frag} {H : Hp} : ∀ {ns : List Bool} {ys : List V}, VReps K H (ns.map .bl) ys → ys = ns.map V.bl
  | [], _, .nil => rfl
  | _ :: _, _, .cons (.bl _) t => by rw [List.map_cons, VReps.bls t]
theorem VReps.strs {K : PySem.W.Frag} {H : Hp} : ∀ {ns : List Str} {ys : List V}, VReps K H (ns.map .str) ys → ys = ns.map V.str
  | [], _, .nil => rfl
  | _ :: _, _, .cons (.str _) t => by rw [List.map_cons, VReps.strs t]
theorem vreps_strs {K : PySem.W.Frag} {H : Hp} : ∀ (ns : List Str), VReps K H (ns.map .str) (ns.map V.str)
  | [] => .nil
  | _ :: t => .cons (.str _) (vreps_strs t)
theorem vreps_ints {K : PySem.W.Frag} {H : Hp} : ∀ (ns : List Int), VReps K H (ns.map .int) (ns.map V.int)
  | [] => .nil
  | _ :: t => .cons (.int _) (vreps_ints t)
section
variable {X : Cx} {T : Tb}
theorem cA_len : CallR X (.builtin "len") (lowC X.K T lenC) := callA fun xs S R xs' H Q vx sr q k => by
  unfold lenC at q
  split at q
  · cases vx with
    | cons v t =>
      cases v; cases t
      exact ⟨_, call_len_str, _, rfl, q.1, k _ _ q.2 H _ (.refl H) sr (.int _)⟩
  · cases vx with
    | cons v t =>
      cases v with
      | tup hp r =>
        cases t
        exact ⟨_, call_len_seq, _, _, rfl, .inr (.of hp), by rw [← r.length]; exact k _ _ q H _ (.refl H) sr (.int _)⟩
  · rename_i p
    cases vx with
    | cons v t =>
      cases v; cases t
      split at q
      · rename_i ys e
        obtain ⟨zs, sq, r⟩ := CRep.sql sr (.inl e)
        exact ⟨_, call_len_seq, _, _, rfl, .inl sq, by rw [← r.length]; exact k _ _ q H _ (.refl H) sr (.int _)⟩
      · rename_i ys e
        obtain ⟨zs, sq, r⟩ := CRep.sql sr (.inr e)
        exact ⟨_, call_len_seq, _, _, rfl, .inl sq, by rw [← r.length]; exact k _ _ q H _ (.refl H) sr (.int _)⟩
      · rename_i ys e
        obtain ⟨zs, e2, r⟩ := sr.cell p _ e
        exact ⟨_, call_lenD, _, _, rfl, e2, by rw [← r.length]; exact k _ _ q H _ (.refl H) sr (.int _)⟩
      · rename_i ys e
        obtain ⟨zs, e2, r⟩ := sr.cell p _ e
        refine ⟨_, call_len_dT, p, zs, rfl, ?_, ?_⟩
        · first | exact e2 | exact .inl e2
        · rw [← r.length]; exact k _ _ q H _ (.refl H) sr (.int _)
      · exact q.elim
  · exact q.elim
theorem cA_abs : CallR X (.builtin "abs") (lowC X.K T absC) := callA fun xs S R xs' H Q vx sr q k => by
  unfold absC at q
  split at q
  · cases vx with
    | cons v t =>
      cases v; cases t
      exact ⟨_, call_abs, _, rfl, k _ _ q H _ (.refl H) sr (.int _)⟩
  · exact q.elim
theorem cA_int : CallR X (.type "int") (lowC X.K T intC) := callA fun xs S R xs' H Q vx sr q k => by
  unfold intC at q
  split at q
  · cases vx with
    | cons v t =>
      cases v; cases t
      exact ⟨_, call_int1, .inl ⟨_, rfl, k _ _ q H _ (.refl H) sr (.int _)⟩⟩
  · cases vx with
    | cons v t =>
      cases v; cases t
      exact ⟨_, call_int1, .inr ⟨_, rfl, k _ _ q H _ (.refl H) sr (.int _)⟩⟩
  · exact q.elim
theorem cA_max2 (hc : X.calm = true) : CallR X (.builtin "max") (lowC X.K T max2C) := callA fun xs S R xs' H Q vx sr q k => by
  unfold max2C at q
  split at q
  · cases vx with
    | cons v t =>
      cases t with
      | cons u t =>
        cases v; cases u; cases t
        exact ⟨_, call_max2 hc, _, _, rfl, k _ _ q H _ (.refl H) sr (.int _)⟩
  · exact q.elim
theorem cA_min2 (hc : X.calm = true) : CallR X (.builtin "min") (lowC X.K T min2C) := callA fun xs S R xs' H Q vx sr q k => by
  unfold min2C at q
  split at q
  · cases vx with
    | cons v t =>
      cases t with
      | cons u t =>
        cases v; cases u; cases t
        exact ⟨_, call_min2 hc, _, _, rfl, k _ _ q H _ (.refl H) sr (.int _)⟩
  · exact q.elim
theorem sql_ints {K : PySem.W.Frag} {S : Store} {H : Hp} {p : Addr} {ns : List Int} (sr : SRep K T S H) (h : S p = some (.lst (ns.map .int)) ∨ S p = some (.rd (ns.map .int))) : SqL K H p (ns.map V.int) := by
  obtain ⟨zs, sq, r⟩ := CRep.sql sr h
  rw [r.ints] at sq
  exact sq
theorem sql_bls {K : PySem.W.Frag} {S : Store} {H : Hp} {p : Addr} {ns : List Bool} (sr : SRep K T S H) (h : S p = some (.lst (ns.map .bl)) ∨ S p = some (.rd (ns.map .bl))) : SqL K H p (ns.map V.bl) := by
  obtain ⟨zs, sq, r⟩ := CRep.sql sr h
  rw [r.bls] at sq
  exact sq
theorem cA_sum (hc : X.calm = true) : CallR X (.builtin "sum") (lowC X.K T sumC) := callA fun xs S R xs' H Q vx sr q k => by
  unfold sumC at q
  split at q
  · obtain ⟨ns, h, q⟩ := q
    cases vx with
    | cons v t =>
      cases v; cases t
      exact ⟨_, cr_sum hc, _, _, rfl, sql_ints sr h, k _ _ q H _ (.refl H) sr (.int _)⟩
  · exact q.elim
theorem cA_max (hc : X.calm = true) : CallR X (.builtin "max") (lowC X.K T maxC) := callA fun xs S R xs' H Q vx sr q k => by
  unfold maxC at q
  split at q
  · obtain ⟨ns, h, hl, q⟩ := q
    cases vx with
    | cons v t =>
      cases v; cases t
      exact ⟨_, cr_max hc, _, _, rfl, sql_ints sr h, hl, fun m h1 h2 => k _ _ (q m h1 h2) H _ (.refl H) sr (.int _)⟩
  · exact q.elim
theorem cA_min (hc : X.calm = true) : CallR X (.builtin "min") (lowC X.K T minC) := callA fun xs S R xs' H Q vx sr q k => by
  unfold minC at q
  split at q
  · obtain ⟨ns, h, hl, q⟩ := q
    cases vx with
    | cons v t =>
      cases v; cases t
      exact ⟨_, cr_min hc, _, _, rfl, sql_ints sr h, hl, fun m h1 h2 => k _ _ (q m h1 h2) H _ (.refl H) sr (.int _)⟩
  · exact q.elim
theorem cA_any (hc : X.calm = true) : CallR X (.builtin "any") (lowC X.K T anyC) := callA fun xs S R xs' H Q vx sr q k => by
  unfold anyC at q
  split at q
  · obtain ⟨ns, h, q⟩ := q
    cases vx with
    | cons v t =>
      cases v; cases t
      exact ⟨_, cr_any hc, _, _, rfl, sql_bls sr h, k _ _ q H _ (.refl H) sr (.bl _)⟩
  · exact q.elim
theorem cA_all (hc : X.calm = true) : CallR X (.builtin "all") (lowC X.K T allC) := callA fun xs S R xs' H Q vx sr q k => by
  unfold allC at q
  split at q
  · obtain ⟨ns, h, q⟩ := q
    cases vx with
    | cons v t =>
      cases v; cases t
      exact ⟨_, cr_all hc, _, _, rfl, sql_bls sr h, k _ _ q H _ (.refl H) sr (.bl _)⟩
  · exact q.elim
theorem cA_list : CallR X (.type "list") (lowC X.K T listC) := callA fun xs S R xs' H Q vx sr q k => by
  unfold listC at q
  split at q
  · cases vx with
    | cons v t =>
      cases v with
      | tup hp r =>
        cases t
        exact ⟨_, call_list_of, _, _, rfl, .inr (.of hp), fun p hq => newLst sr hq r q k⟩
  · obtain ⟨ys, h, q⟩ := q
    obtain ⟨zs, sq, r⟩ := CRep.sql sr h
    cases vx with
    | cons v t =>
      cases v; cases t
      exact ⟨_, call_list_of, _, _, rfl, .inl sq, fun p hq => newLst sr hq r q k⟩
  · exact q.elim
theorem cA_tuple : CallR X (.type "tuple") (lowC X.K T tupC) := callA fun xs S R xs' H Q vx sr q k => by
  unfold tupC at q
  split at q
  · cases vx with
    | cons v t =>
      cases v with
      | tup hp r =>
        cases t
        exact ⟨_, call_tuple_of, _, _, rfl, .inr ⟨.of hp, k _ _ q H _ (.refl H) sr (.tup hp r)⟩⟩
  · obtain ⟨ys, h, q⟩ := q
    obtain ⟨zs, sq, r⟩ := CRep.sql sr h
    cases vx with
    | cons v t =>
      cases v; cases t
      exact ⟨_, call_tuple_of, _, _, rfl, .inl ⟨sq, fun p hq => newTup sr hq r q k⟩⟩
  · exact q.elim
theorem cA_sortedS (hc : X.calm = true) : CallR X (.builtin "sorted") (lowC X.K T sortedSC) := callA fun xs S R xs' H Q vx sr q k => by
  unfold sortedSC at q
  split at q
  · obtain ⟨ks, h, hl, q⟩ := q
    cases vx with
    | cons v t =>
      cases v; cases t
      rcases h with h | ⟨kvs, h, hk⟩
      · obtain ⟨zs, sq, r⟩ := CRep.sql sr h
        rw [r.strs] at sq
        exact ⟨_, cr_sortedS, _, _, rfl, sq, hl, fun ys p hp hs hn => newLst sr hn (vreps_strs ys) (fun p hp' => q ys p hp hs hp') k⟩
      · obtain ⟨zs, e, r⟩ := sr.cell _ _ h
        refine ⟨_, call_sortedD hc, _, zs, ks, rfl, .of e, r.keys ▸ hk, hl, ?_⟩
        intro ys p hp hs hn
        exact newLst sr hn (vreps_strs ys) (fun p hp' => q ys p hp hs hp') k
  · exact q.elim
end

/-! ### isinstance of a built-in type -/
def tyV? (x : Val) (S : Store) : Option String := match x with
  | .non => some "NoneType"
  | .bl _ => some "bool"
  | .int _ => some "int"
  | .str _ => some "str"
  | .tup _ => some "tuple"
  | .ref p => (match S p with
    | some (.lst _) => some "list"
    | some (.rd _) => some "list"
    | some (.dk _) => some "dict"
    | some (.dt _) => some "dict"
    | _ => none)
def subTy (a b : String) : Bool := a == b || (a == "bool" && b == "int")
def aIsi (Ty : String) (a : AE) : AE := fun E es S R => a E es S fun x S1 => match tyV? x S1 with
  | some t => R (.bl (subTy t Ty)) S1
  | none => False
theorem tyV_ok {K : PySem.W.Frag} {T : Tb} {S : Store} {H : Hp} {x : Val} {x' : V} {t : String} (sr : SRep K T S H) (vx : VRep K H x x') (h : tyV? x S = some t) : TyX K H x' (.type t) := by
  cases vx with
  | non => cases h; exact .base .non
  | bl b => cases h; exact .base (.bl b)
  | int b => cases h; exact .base (.int b)
  | str b => cases h; exact .base (.str b)
  | tup hp r => cases h; exact .base (.tup hp)
  | ref p =>
    simp only [tyV?] at h
    split at h
    · rename_i ys e
      cases h
      obtain ⟨zs, e2, r⟩ := sr.cell p _ e
      exact .base (.lst e2)
    · rename_i ys e
      cases h
      obtain ⟨⟨o, u, e2⟩, _⟩ := sr.cell p _ e
      exact .base (.frz e2)
    · rename_i ys e
      cases h
      obtain ⟨zs, e2, r⟩ := sr.cell p _ e
      exact .base (.dK e2)
    · rename_i ys e
      cases h
      obtain ⟨zs, e2, r⟩ := sr.cell p _ e
      exact .base (.dT e2)
    · cases h
theorem kitB_all {Ty : String} (h : (["NoneType", "bool", "int", "str", "tuple", "list", "dict"].all fun t => decide (kitB t Ty = some (subTy t Ty))) = true) {x : Val} {S : Store} {t : String} (e : tyV? x S = some t) : kitB t Ty = some (subTy t Ty) := by
  simp only [List.all_cons, List.all_nil, Bool.and_true, Bool.and_eq_true, decide_eq_true_eq] at h
  obtain ⟨h1, h2, h3, h4, h5, h6, h7⟩ := h
  unfold tyV? at e
  split at e
  any_goals (cases e; first | exact h1 | exact h2 | exact h3 | exact h4 | exact h5)
  split at e <;> (cases e <;> first | exact h6 | exact h7)
theorem ie_isi {X : Cx} {T : Tb} {W : WX} {a : Expr} {aa : AE} {Ty : String} {x y : Str} {p p2 pos : Pos} (hk : (["NoneType", "bool", "int", "str", "tuple", "list", "dict"].all fun t => decide (kitB t Ty = some (subTy t Ty))) = true) (ha : IE X T W a aa)
    (hg : Gl X x) (hm : X.mg x = none) (hv : bootBuiltins x = some (.builtin "isinstance")) (hgy : Gl X y) (hmy : X.mg y = none) (hvy : bootBuiltins y = some (.type Ty)) (hn : x ≠ "__name__" := by decide) (hdb : (x == ("__debug__" : Str)) = false := by decide) (hny : y ≠ "__name__" := by decide) (hdby : (y == ("__debug__" : Str)) = false := by decide)
    (he : starEach [a, .Name y p2] X.env = (false, eval a X.env) :: starEach [.Name y p2] X.env := by rfl) : IE X T W (.Call (.Name x p) [a, .Name y p2] [] pos) (aIsi Ty aa) :=
  ⟨pe_mono (pe_callB call_isi hg hm hv (pa_cons ha.r (pa_cons (pe_bltn (v := .ty Ty) hgy hmy hvy rfl hny hdby) pa_nil) he) hn hdb he) fun σ H Q h => by
    obtain ⟨es, S, E, R, er, sr, xr, h, k⟩ := h
    refine ⟨es, S, E, _, er, sr, xr, h, fun x S1 h1 H1 x' t1 s1 v1 => ?_⟩
    split at h1
    · rename_i t e
      exact ⟨x', .ty Ty, _, _, _, rfl, .ty Ty, tyV_ok s1 v1 e, kit_ty (kitB_all hk e), k _ _ h1 H1 _ t1 s1 (.bl _)⟩
    · exact h1.elim⟩

/-! ### methods of built-in types -/
abbrev AM := Val → List Val → Store → AK → Prop
def lowM (K : PySem.W.Frag) (T : Tb) (r : AM) : V → List V → Hp → VK → Prop := fun x' xs' H Q => ∃ x xs S R, VRep K H x x' ∧ VReps K H xs xs' ∧ SRep K T S H ∧ r x xs S R ∧ ∀ v S', R v S' → ∀ H' v', TupX K H H' → SRep K T S' H' → VRep K H' v v' → Q v' H'
def tyA (Ty : String) (x : Val) (S : Store) : Prop := match x with
  | .str _ => Ty = "str"
  | .ref p => (match S p with
    | some (.lst _) => Ty = "list"
    | some (.rd _) => Ty = "list"
    | some (.dk _) => Ty = "dict"
    | some (.dt _) => Ty = "dict"
    | _ => False)
  | _ => False
def aBM0 (Ty : String) (r : AM) (o : AE) : AE := fun E es S R => o E es S fun x S1 => tyA Ty x S1 ∧ r x [] S1 R
def aBM (Ty : String) (r : AM) (o : AE) (t : AA) : AE := fun E es S R => o E es S fun x S1 => tyA Ty x S1 ∧ t E es S1 fun xs S2 => r x xs S2 R
theorem tyA_ok {K : PySem.W.Frag} {T : Tb} {S : Store} {H : Hp} {x : Val} {x' : V} {Ty : String} (sr : SRep K T S H) (vx : VRep K H x x') (h : tyA Ty x S) : tyV K Ty x' H := by
  cases vx with
  | str b => exact h
  | ref p =>
    simp only [tyA] at h
    split at h
    · rename_i ys e
      obtain ⟨zs, sq, _⟩ := CRep.sql sr (.inl e)
      exact .inl ⟨h, zs, sq⟩
    · rename_i ys e
      obtain ⟨zs, sq, _⟩ := CRep.sql sr (.inr e)
      exact .inl ⟨h, zs, sq⟩
    · rename_i ys e
      obtain ⟨zs, e2, r⟩ := sr.cell p _ e
      exact .inr (.inr (.inl ⟨h, .inl ⟨zs, e2⟩⟩))
    · rename_i ys e
      obtain ⟨zs, e2, r⟩ := sr.cell p _ e
      exact .inr (.inr (.inl ⟨h, .inr ⟨zs, e2⟩⟩))
    · exact h.elim
  | _ => exact h.elim
section
variable {X : Cx} {T : Tb} {W : WX} {o e : Expr} {es : List Expr} {ao : AE} {t : AA} {name : Str} {apos cpos : Pos} {Ty id : String} {r : AM}
theorem methA {id : String} {r : AM} (h : ∀ (x : Val) (xs : List Val) (S : Store) (R : AK) (x' : V) (xs' : List V) (H : Hp) (Q : VK), VRep X.K H x x' → VReps X.K H xs xs' → SRep X.K T S H → r x xs S R →
    (∀ v S', R v S' → ∀ H' v', TupX X.K H H' → SRep X.K T S' H' → VRep X.K H' v v' → Q v' H') → ∃ r' : V → List V → Hp → VK → Prop, MtR X id r' ∧ r' x' xs' H Q) : MtR X id (lowM X.K T r) := by
  intro pins s σ H x' xs' v us Q I rx rv ⟨x, xs, S, R, vx, vxs, sr, q, k⟩
  obtain ⟨r', hc, hq⟩ := h x xs S R x' xs' H Q vx vxs sr q k
  exact hc pins s σ H x' xs' v us Q I rx rv hq
theorem ie_bm0 (pa : PlainAttrs Ty) (slot : Slot Ty name id) (hty : typeOf (.builtin id) = pure (.type "method_descriptor")) (hm : MtR X id (lowM X.K T r)) (ho : IE X T W o ao)
    (hbase : attributeBase o name X.env (eval o X.env) = eval o X.env := by rfl) (hline : (apos.endLine == cpos.line) = true := by rfl) : IE X T W (.Call (.Attribute o name apos) [] [] cpos) (aBM0 Ty r ao) :=
  ⟨pe_mono (pe_bm0 pa slot hty hm ho.r hbase hline) fun σ H Q h => by
    obtain ⟨es, S, E, R, er, sr, xr, h, k⟩ := h
    exact ⟨es, S, E, _, er, sr, xr, h, fun x S1 h1 H1 x' t1 s1 v1 => ⟨tyA_ok s1 v1 h1.1, x, [], S1, R, v1, .nil, s1, h1.2, fun v S' hv H' v' t s q => k _ _ hv _ _ (t1.trans t) s q⟩⟩⟩
theorem ie_bm (pa : PlainAttrs Ty) (slot : Slot Ty name id) (hty : typeOf (.builtin id) = pure (.type "method_descriptor")) (hm : MtR X id (lowM X.K T r)) (ho : IE X T W o ao) (ha : IA X T W (e :: es) t)
    (hbase : attributeBase o name X.env (eval o X.env) = eval o X.env := by rfl)
    (hfew : ((backTo cpos (starEach (e :: es) X.env)).all (fun x => !x.1) && (backToKw cpos (keywordEach [] X.env)).all (fun x => x.1.isSome)
      && decide ((e :: es).length + ([] : List Keyword).length + (if ([] : List Keyword).isEmpty then 0 else 1) < 30)) = true := by rfl)
    (hline : (apos.endLine == cpos.line) = true := by rfl) (hs : starEach (e :: es) X.env = (false, eval e X.env) :: starEach es X.env := by rfl) (hplain : (backTo cpos (starEach es X.env)).any (·.1) = false := by rfl) :
    IE X T W (.Call (.Attribute o name apos) (e :: es) [] cpos) (aBM Ty r ao t) :=
  ⟨pe_mono (pe_bm pa slot hty hm ho.r ha.r hbase hfew hline hs hplain) fun σ H Q h => by
    obtain ⟨es, S, E, R, er, sr, xr, h, k⟩ := h
    exact ⟨es, S, E, _, er, sr, xr, h, fun x S1 h1 H1 x' t1 s1 v1 => ⟨tyA_ok s1 v1 h1.1, es, S1, E, _, er.ext t1, s1, xr.ext t1, h1.2, fun xs S2 h2 H2 xs' t2 s2 v2 => ⟨x, xs, S2, R, v1.ext t2, v2, s2, h2, fun v S' hv H' v' t s q => k _ _ hv _ _ ((t1.trans t2).trans t) s q⟩⟩⟩⟩
def appendM : AM := fun x xs S R => match x, xs with
  | .ref l, [y] => ∃ ys, S l = some (.lst ys) ∧ ys.length < sizeLine ∧ R .non (ups S l (.lst (ys ++ [y])))
  | _, _ => False
/-- of a list or a tuple -/
def extendM : AM := fun x xs S R => match x, xs with
  | .ref l, [.ref b] => ∃ ys zs, S l = some (.lst ys) ∧ S b = some (.lst zs) ∧ ys.length + zs.length ≤ sizeLine ∧ R .non (ups S l (.lst (ys ++ zs)))
  | .ref l, [.tup zs] => ∃ ys, S l = some (.lst ys) ∧ ys.length + zs.length ≤ sizeLine ∧ R .non (ups S l (.lst (ys ++ zs)))
  | _, _ => False
def popM : AM := fun x xs S R => match x, xs with
  | .ref l, [] => ∃ ys y, S l = some (.lst ys) ∧ ys[ys.length - 1]? = some y ∧ R y (ups S l (.lst ys.dropLast))
  | .ref l, [.int i] => ∃ ys y k, S l = some (.lst ys) ∧ -(2 ^ 63) ≤ i ∧ i < 2 ^ 63 ∧ seqIndex? i ys.length = some k ∧ ys[k]? = some y ∧ R y (ups S l (.lst (ys.eraseIdx k)))
  | _, _ => False
def indexM : AM := fun x xs S R => match x, xs with
  | .ref l, [y] => ∃ ys j z, (S l = some (.lst ys) ∨ S l = some (.rd ys)) ∧ flat y = true ∧ ys.all flat = true ∧ ys[j]? = some z ∧ eqF z y = true ∧ (∀ (m : Nat) (z' : Val), m < j → ys[m]? = some z' → eqF z' y = false) ∧ R (.int (j : Nat)) S
  | _, _ => False
/-- list.extend of a tuple -/
theorem ext_tup (l : Addr) (items : Array Value) (n : Nat) (b : Addr) (items2 : Array Value) (n2 : Nat) (dd : Option Addr) (sl : Array (Option Value)) (hs0 : ¬(!items.isEmpty && Builtin.List.listTooLong (items.size + items2.size)) = true) (hs1 : items.size ≤ sizeLine) (hs2 : items.size + items2.size ≤ sizeLine + 1) :
    Meets (Builtin.«list.extend» ⟨[.ref l, .ref b], []⟩) (fun _ R s =>
      s.heap.get? l = some { cls := .type "list", dict := none, data := .seq items n, slots := #[] } ∧
      s.heap.get? b = some { cls := .type "tuple", dict := dd, data := .seq items2 n2, slots := sl } ∧
      R (.ok (.ret Value.none)) { s with heap := s.heap.update l (Obj.mapSeq fun x => x ++ items2), toks := s.toks }) :=
  .of_wp fun prog w A R s h => by
    obtain ⟨hp, g, d, tk, os⟩ := s
    obtain ⟨hl, hb, h⟩ := h
    have f1 := AutoSeq1.idx_int
    have f2 := AutoSeq1.sub_tuple_tuple
    have f3 := AutoSeq1.sub_list_list
    have f4 := AutoSeq1.sub_tuple_list
    have f5 := AutoSeq1.sub_list_tuple
    have hz' : (items ++ items2).size ≤ sizeLine + 1 := by rw [Array.size_append]; exact hs2
    wp_walk using (PySem.wpAny_updateSeq hl rfl (hz := hs1) (_hz' := hz')), AutoSeq1.wpAny_loadPart' hl, AutoSeq1.wpAny_loadPart' hb
    exact ⟨_, rfl, h⟩
end
end A3

set_option Elab.async false
set_option linter.all false
set_option maxRecDepth 100000
set_option maxHeartbeats 4000000
namespace A3
open PySem PySem.Spec PyProof.Rows L2
section
variable {X : Cx} {T : Tb} {W : WX}
theorem mA_append : MtR X "list.append" (lowM X.K T appendM) := methA fun x xs S R x' xs' H Q vx vxs sr q k => by
  unfold appendM at q
  split at q
  · obtain ⟨ys, h, hl, q⟩ := q
    obtain ⟨zs, e, r⟩ := sr.cell _ _ h
    cases vx
    cases vxs with
    | cons v t =>
      cases t
      obtain ⟨t2, s2⟩ := setLst sr h (r.snoc v)
      exact ⟨_, mt_append, _, zs, _, rfl, rfl, e, r.length ▸ hl, k _ _ q _ _ t2 s2 .non⟩
  · exact q.elim
def rExtT (K : PySem.W.Frag) : V → List V → Hp → VK → Prop := fun x vs H Q => ∃ l b xs zs, x = .ref l ∧ vs = [.ref b] ∧ H l = some (.lst xs) ∧ SqT K H b zs ∧ xs.length + zs.length ≤ sizeLine ∧ Q .non (upd H l (.lst (xs ++ zs)))
theorem mt_extT : MtR X "list.extend" (rExtT X.K) := by
  intro pins s σ H x vs v us Q I rx rv h
  obtain ⟨l, b, xs, zs, rfl, rfl, hH, hB, hz, q⟩ := h
  cases rx
  obtain ⟨u, rfl, ru⟩ := rv.one
  cases ru
  obtain ⟨z, its, n, r, hl, e⟩ := I.lstM hH
  obtain ⟨its2, r2, ⟨⟨c2, dd2, da2, sl2⟩, e2, hc2, n2, hd2⟩, hl2⟩ := I.tuple hB
  simp only at hc2 hd2
  subst hc2 hd2
  have l2 := r2.length
  have hsz : its.toArray.size + its2.toArray.size ≤ sizeLine := by rw [List.size_toArray, List.size_toArray]; omega
  have hlong : ¬ (!its.toArray.isEmpty && Builtin.List.listTooLong (its.toArray.size + its2.toArray.size)) = true := by
    rw [notLongL hsz, Bool.and_false]
    exact Bool.false_ne_true
  refine call_meets PySem.F.slot_list_extend ⟨_, e, rfl⟩ PySem.F.entry_list_extend (PySem.F.args_list_extend_2 _ _)
    (ext_tup l its.toArray n b its2.toArray n2 dd2 sl2 hlong (by rw [List.size_toArray]; omega) (by omega)) ⟨e, e2, ?_⟩
  refine ⟨.non, _, I.lset (its' := its ++ its2) hH e (by simp) (r.append r2) ?_, rfl, q⟩
  rw [List.length_append]
  omega
theorem mA_extend : MtR X "list.extend" (lowM X.K T extendM) := methA fun x xs S R x' xs' H Q vx vxs sr q k => by
  unfold extendM at q
  split at q
  · obtain ⟨ys, zs, h, h2, hl, q⟩ := q
    obtain ⟨ys', e, r⟩ := sr.cell _ _ h
    obtain ⟨zs', e2, r2⟩ := sr.cell _ _ h2
    cases vx
    cases vxs with
    | cons v t =>
      cases v; cases t
      obtain ⟨t3, s3⟩ := setLst sr h (r.append r2)
      exact ⟨_, mt_extend, _, _, ys', zs', rfl, rfl, e, e2, r.length ▸ r2.length ▸ hl, k _ _ q _ _ t3 s3 .non⟩
  · obtain ⟨ys, h, hl, q⟩ := q
    obtain ⟨ys', e, r⟩ := sr.cell _ _ h
    cases vx
    cases vxs with
    | cons v t =>
      cases v with
      | tup hp r2 =>
        cases t
        obtain ⟨t3, s3⟩ := setLst sr h (r.append r2)
        exact ⟨_, mt_extT, _, _, ys', _, rfl, rfl, e, .of hp, r.length ▸ r2.length ▸ hl, k _ _ q _ _ t3 s3 .non⟩
  · exact q.elim
theorem mA_pop : MtR X "list.pop" (lowM X.K T popM) := methA fun x xs S R x' xs' H Q vx vxs sr q k => by
  unfold popM at q
  split at q
  · obtain ⟨ys, y, h, hy, q⟩ := q
    obtain ⟨zs, e, r⟩ := sr.cell _ _ h
    cases vx
    cases vxs
    obtain ⟨y', e1, ry⟩ := r.get hy
    obtain ⟨t2, s2⟩ := setLst sr h r.dropLast
    exact ⟨_, mt_pop, _, zs, y', rfl, rfl, e, by rw [← r.length]; exact e1, k _ _ q _ _ t2 s2 (ry.ext t2)⟩
  · obtain ⟨ys, y, j, h, l1, l2, hj, hy, q⟩ := q
    obtain ⟨zs, e, r⟩ := sr.cell _ _ h
    cases vx
    cases vxs with
    | cons v t =>
      cases v; cases t
      obtain ⟨y', e1, ry⟩ := r.get hy
      obtain ⟨t2, s2⟩ := setLst sr h (r.erase j)
      exact ⟨_, mt_popAt, _, zs, _, j, y', rfl, rfl, e, l1, l2, by rw [← r.length]; exact hj, e1, k _ _ q _ _ t2 s2 (ry.ext t2)⟩
  · exact q.elim
theorem flat_back {K : PySem.W.Frag} {H : Hp} {x : Val} {x' : V} (v : VRep K H x x') (f : flat x = true) : flatV x' = true := flat_ok v f
theorem mA_index : MtR X "list.index" (lowM X.K T indexM) := methA fun x xs S R x' xs' H Q vx vxs sr q k => by
  unfold indexM at q
  split at q
  · obtain ⟨ys, j, z, h, fy, fs, hj, hz, hm, q⟩ := q
    obtain ⟨zs, sq, r⟩ := CRep.sql sr h
    cases vx
    cases vxs with
    | cons v t =>
      cases t
      obtain ⟨z', e1, rz⟩ := r.get hj
      have fz : flat z = true := List.all_eq_true.mp fs z (List.mem_of_getElem? hj)
      refine ⟨_, mt_index, _, zs, _, j, z', rfl, rfl, sq, flat_ok v fy, flats_ok r fs, e1, by rw [eqF_ok rz v fz fy]; exact hz, fun m w hm1 hw => ?_, k _ _ q H _ (.refl H) sr (.int _)⟩
      obtain ⟨w0, e2, rw0⟩ := r.get' hw
      rw [eqF_ok rw0 v (List.all_eq_true.mp fs w0 (List.mem_of_getElem? e2)) fy]
      exact hm m w0 hm1 e2
  · exact q.elim
/-- xs.count(y), flat items -/
def countM : AM := fun x xs S R => match x, xs with
  | .ref l, [y] => ∃ ys, (S l = some (.lst ys) ∨ S l = some (.rd ys)) ∧ flat y = true ∧ ys.all flat = true ∧ R (.int (ys.countP fun z => eqF z y : Nat)) S
  | _, _ => False
def rCntV (K : PySem.W.Frag) : V → List V → Hp → VK → Prop := fun x xs H Q => ∃ (p : Addr) (ys : List V) (y : V), x = .ref p ∧ xs = [y] ∧ SqL K H p ys ∧ flatV y = true ∧ ys.all flatV = true ∧ Q (.int (ys.countP fun z => eqV z y : Nat)) H
theorem countP_eqU {x : V} : ∀ {xs : List V} {us : List Value}, Vals xs us → xs.all flatV = true → us.countP (eqU x) = xs.countP fun y => eqV y x
  | _, _, .nil, _ => rfl
  | _, _, .cons r t, f => by
    rw [List.all_cons, Bool.and_eq_true] at f
    rw [List.countP_cons, List.countP_cons, countP_eqU t f.2, eqU_of r f.1]
theorem mt_countV : MtR X "list.count" (rCntV X.K) := by
  intro pins s σ H x xs v us Q I rx rxs h
  obtain ⟨p, ys, y, rfl, rfl, hs, fy, fs, q⟩ := h
  cases rx
  obtain ⟨u, rfl, ru⟩ := rxs.one
  obtain ⟨its, rv, ⟨⟨cls, dd, data, sl⟩, n, ho, hc, hdn, hd⟩, hlen⟩ := I.list hs
  simp only at hc hd
  subst hc hd
  refine call_meets PySem.F.slot_list_count ⟨_, ho, rfl⟩ PySem.F.entry_list_count (PySem.F.args_list_count_2 _ _)
    (SeqAt.list_countAt p its.toArray n dd sl u (eqU y)) ⟨ho, fun z hz => mem_eqAt ru fy rv fs z (by simpa using hz), ?_⟩
  refine ⟨.int (ys.countP fun z => eqV z y : Nat), H, I.tok _, ⟨s.toks, ?_⟩, q⟩
  show Value.int ((its.toArray.toList.countP (eqU y) : Nat) : Int) s.toks = Value.int ((ys.countP fun z => eqV z y : Nat) : Int) s.toks
  have e : its.toArray.toList = its := rfl
  rw [e, countP_eqU rv fs]
theorem countF_ok {K : PySem.W.Frag} {H : Hp} {x : Val} {x' : V} (v : VRep K H x x') (f : flat x = true) : ∀ {xs : List Val} {ys : List V}, VReps K H xs ys → xs.all flat = true → (ys.countP fun z => eqV z x') = xs.countP fun z => eqF z x
  | _, _, .nil, _ => rfl
  | _, _, .cons r t, g => by
    rw [List.all_cons, Bool.and_eq_true] at g
    rw [List.countP_cons, List.countP_cons, countF_ok v f t g.2, eqF_ok r v g.1 f]
theorem mA_count : MtR X "list.count" (lowM X.K T countM) := methA fun x xs S R x' xs' H Q vx vxs sr q k => by
  unfold countM at q
  split at q
  · obtain ⟨ys, h, fy, fs, q⟩ := q
    obtain ⟨zs, sq, r⟩ := CRep.sql sr h
    cases vx
    cases vxs with
    | cons v t =>
      cases t
      exact ⟨_, mt_countV, _, zs, _, rfl, rfl, sq, flat_ok v fy, flats_ok r fs, by rw [countF_ok v fy r fs]; exact k _ _ q H _ (.refl H) sr (.int _)⟩
  · exact q.elim
end

/-! ### stores -/
/-- o[i] = v: a list's item -/
def tSub (o i : AE) : AG := fun E v es S R => o E es S fun x S1 => i E es S1 fun y S2 => match x, y with
  | .ref p, .int k => ∃ xs j, S2 p = some (.lst xs) ∧ ixN xs.length k = some j ∧ R es (ups S2 p (.lst (xs.set j v)))
  | _, _ => False
def sSub (a o i : AE) : AS := fun D es S => a (D.xe es) es S fun v S1 => tSub o i (D.xe es) v es S1 D.nx
section
variable {X : Cx} {T : Tb} {W : WX} {o i e : Expr} {ao ai ae : AE} {pos tpos : Pos}
theorem is_lset (ho : IE X T W o ao) (hi : IE X T W i ai) (he : IE X T W e ae)
    (ha : ∀ v, assign (.Subscript o i tpos) X.env v = (do
      let ov ← holding [v] (eval o X.env)
      let iv ← holding [v, ov] (eval i X.env)
      standAt tpos
      holding [v, ov, iv] (setItem ov iv v)
      release [v, ov, iv] []) := by intro _; rfl)
    (hs : swapsWithSole [.Subscript o i tpos] e pos.line X.env = pure false := by rfl) (hw : swappedStores [.Subscript o i tpos] e X.env = pure none := by rfl)
    (h1 : (assignEach [.Subscript o i tpos] X.env).map (·.2) = [assign (.Subscript o i tpos) X.env] := by rfl) : IS X T W (.Assign [.Subscript o i tpos] e pos) (sSub ae ao ai) :=
  ⟨ps_mono (ps_asg he.r (pg_sub ho.r hi.r set_list ha) hs hw h1) fun D σ H h => by
    obtain ⟨es, S, Da, er, sr, q, dr⟩ := h
    refine ⟨es, S, _, _, er, sr, dr.xe er, q, fun v S1 h1 H1 v' t1 s1 r1 => ?_⟩
    refine ⟨es, S1, _, _, er.ext t1, s1, (dr.xe er).ext t1, h1, fun x S2 h2 H2 x' t2 s2 r2 => ?_⟩
    have t12 := t1.trans t2
    refine ⟨es, S2, _, _, er.ext t12, s2, (dr.xe er).ext t12, h2, fun y S3 h3 H3 y' t3 s3 r3 => ?_⟩
    cases r2 with
    | ref p =>
      cases r3 with
      | int j =>
        obtain ⟨xs, n, hp, hj, h3⟩ := h3
        obtain ⟨ys, e, r⟩ := s3.cell p _ hp
        obtain ⟨t4, s4⟩ := setLst s3 hp (r.set (r1.ext (t2.trans t3)) n)
        exact ⟨p, ys, j, n, rfl, rfl, e, by rw [← r.length]; exact hj, dr.nx _ _ h3 _ _ ((t12.trans t3).trans t4) (er.ext ((t12.trans t3).trans t4)) s4⟩
      | _ => exact h3.elim
    | _ => exact h3.elim⟩
/-- the cell behind d[y] = v -/
def putD? (c : Cell) (y v : Val) : Option Cell := match c, y with
  | .dk kvs, y => (keyA y).map fun k => .dk (putA kvs k v)
  | .dt kvs, .tup xs => (keysA xs).map fun k => .dt (putA kvs k v)
  | _, _ => none
def lenD : Cell → Nat
  | .dk kvs => kvs.length
  | .dt kvs => kvs.length
  | _ => 0
theorem putD_ok {K : PySem.W.Frag} {T : Tb} {S : Store} {H : Hp} {p : Addr} {c c' : Cell} {y v : Val} {y' v' : V} (sr : SRep K T S H) (hc : S p = some c) (vy : VRep K H y y') (vv : VRep K H v v') (h : putD? c y v = some c') (hl : lenD c < sizeLine) :
    ∃ H', DPut H p y' v' H' ∧ TupX K H H' ∧ SRep K T (ups S p c') H' := by
  have cr := sr.cell p c hc
  cases c with
  | dk kvs =>
    obtain ⟨ys, e, r⟩ := cr
    simp only [putD?, Option.map_eq_some_iff] at h
    obtain ⟨k, hk, ho⟩ := h
    subst ho
    rw [keyA_ok vy hk]
    have t : TupX K H (upd H p (.dK (putK ys k v'))) := .upd (sr.cell p _ hc).noTup
    exact ⟨_, .k e (r.length ▸ hl), t, sr.write (c := .dk (putA kvs k v)) hc ⟨_, upd_same, (r.put vv).ext t⟩⟩
  | dt kvs =>
    obtain ⟨ys, e, r⟩ := cr
    cases vy with
    | tup hp rs =>
      simp only [putD?, Option.map_eq_some_iff] at h
      obtain ⟨k, hk, ho⟩ := h
      subst ho
      have e2 := keysA_ok rs hk
      subst e2
      have t : TupX K H (upd H p (.dT (putK ys k v'))) := .upd (sr.cell p _ hc).noTup
      exact ⟨_, .t e hp (r.length ▸ hl), t, sr.write (c := .dt (putA kvs k v)) hc ⟨_, upd_same, (r.put vv).ext t⟩⟩
    | _ => cases h
  | _ => cases h
/-- d[y] = v -/
def sDPut (a o i : AE) : AS := fun D es S => a (D.xe es) es S fun v S1 => o (D.xe es) es S1 fun x S2 => i (D.xe es) es S2 fun y S3 => match x with
  | .ref p => ∃ c c', S3 p = some c ∧ putD? c y v = some c' ∧ lenD c < sizeLine ∧ D.nx es (ups S3 p c')
  | _ => False
theorem is_dput (hu : X.A.units + 1 < cLine) (ho : IE X T W o ao) (hi : IE X T W i ai) (he : IE X T W e ae) (hs : swapsWith e (some (.Subscript o i tpos)) pos.line X.env = pure false := by rfl) :
    IS X T W (.Assign [.Subscript o i tpos] e pos) (sDPut ae ao ai) := ⟨ps_mono (ps_dput hu ho.r hi.r he.r hs) fun D σ H h => by
    obtain ⟨es, S, Da, er, sr, q, dr⟩ := h
    refine ⟨es, S, _, _, er, sr, dr.xe er, q, fun v S1 h1 H1 v' t1 s1 r1 => ?_⟩
    refine ⟨es, S1, _, _, er.ext t1, s1, (dr.xe er).ext t1, h1, fun x S2 h2 H2 x' t2 s2 r2 => ?_⟩
    have t12 := t1.trans t2
    refine ⟨es, S2, _, _, er.ext t12, s2, (dr.xe er).ext t12, h2, fun y S3 h3 H3 y' t3 s3 r3 => ?_⟩
    cases r2 with
    | ref p =>
      obtain ⟨c, c', hc, hp, hl, h3⟩ := h3
      obtain ⟨H4, g, t4, s4⟩ := putD_ok s3 hc r3 (r1.ext (t2.trans t3)) hp hl
      exact ⟨p, H4, rfl, g, dr.nx _ _ h3 _ _ ((t12.trans t3).trans t4) (er.ext ((t12.trans t3).trans t4)) s4⟩
    | _ => exact h3.elim⟩
/-- {} whose keys will be ints and texts; tuples -/
def aDk : AE := fun _ _ S R => ∀ p, S p = none → R (.ref p) (ups S p (.dk []))
def aDt : AE := fun _ _ S R => ∀ p, S p = none → R (.ref p) (ups S p (.dt []))
theorem ie_dk : IE X T W (.Dict [] [] pos) aDk := ⟨pe_mono pe_dnewK fun σ H Q h => by
  obtain ⟨es, S, E, R, er, sr, xr, h, k⟩ := h
  exact fun p hp => k _ _ (h p (sr.free hp)) _ _ (.upd (noTup_none hp)) (sr.new (c := .dk []) hp ⟨[], upd_same, .nil⟩) (.ref p)⟩
theorem ie_dt : IE X T W (.Dict [] [] pos) aDt := ⟨pe_mono pe_dnewT fun σ H Q h => by
  obtain ⟨es, S, E, R, er, sr, xr, h, k⟩ := h
  exact fun p hp => k _ _ (h p (sr.free hp)) _ _ (.upd (noTup_none hp)) (sr.new (c := .dt []) hp ⟨[], upd_same, .nil⟩) (.ref p)⟩
/-- name op= e -/
def sAug (i : Nat) (r : A2) (a : AE) : AS := fun D es S => match es[i]? with
  | some (some x) => a (D.xe es) es S fun y S1 => r x y S1 fun z S2 => D.nx (es.set i (some z)) S2
  | _ => False
theorem is_aug {j : Nat} {x : Str} {op : Operator} {r : A2} {pos' : Pos} (hN : X.N.Nodup) (hi : X.N[j]? = some x) (hx : Loc X.env.scope x) (he : IE X T W e ae) (hop : PIp X op (low2 X.K T r)) (hf : X.fn x = true ∨ X.env.scope.names.lookup x = some .local := by first | exact .inl rfl | exact .inr rfl | assumption) :
    IS X T W (.AugAssign (.Name x pos') op e pos) (sAug j r ae) := ⟨ps_mono (ps_aug hN hi hx he.r hop hf) fun D σ H h => by
    obtain ⟨es, S, Da, er, sr, q, dr⟩ := h
    unfold sAug at q
    split at q
    · rename_i x e
      obtain ⟨x', e2, rx⟩ := er.get j x e
      exact ⟨x', e2, es, S, _, _, er, sr, dr.xe er, q, fun y S1 h1 H1 y' t1 s1 r1 => ⟨x, y, S1, _, rx.ext t1, r1, s1, h1, fun z S2 hz H2 z' t2 s2 r2 => dr.nx _ _ hz _ _ (t1.trans t2) ((er.ext (t1.trans t2)).set r2 j) s2⟩⟩
    · exact q.elim⟩
end
def iaddA : A2 := fun x y S R => match x, y with
  | .int i, .int j => R (.int (i + j)) S
  | .str a, .str b => a.length + b.length ≤ sizeLine ∧ R (.str (a ++ b)) S
  | .ref a, .ref b => ∃ xs ys, S a = some (.lst xs) ∧ S b = some (.lst ys) ∧ xs.length + ys.length ≤ sizeLine ∧ R (.ref a) (ups S a (.lst (xs ++ ys)))
  | _, _ => False
section
variable {X : Cx} {T : Tb}
theorem pA_add : PIp X .Add (low2 X.K T iaddA) := by
  intro pins s σ H x' y' v u Q I rx ry ⟨x, y, S, R, vx, vy, sr, q, k⟩
  cases vx with
  | int i =>
    cases vy with
    | int j => exact iop_add pins s σ H _ _ v u Q I rx ry ⟨i, j, rfl, rfl, k _ _ q H _ (.refl H) sr (.int _)⟩
    | _ => exact q.elim
  | str i =>
    cases vy with
    | str j => exact iop_add_str pins s σ H _ _ v u Q I rx ry ⟨i, j, rfl, rfl, q.1, k _ _ q.2 H _ (.refl H) sr (.str _)⟩
    | _ => exact q.elim
  | ref a =>
    cases vy with
    | ref b =>
      obtain ⟨xs, ys, h1, h2, hz, q⟩ := q
      obtain ⟨xs', e1, r1⟩ := sr.cell a _ h1
      obtain ⟨ys', e2, r2⟩ := sr.cell b _ h2
      obtain ⟨t3, s3⟩ := setLst sr h1 (r1.append r2)
      exact iop_ext pins s σ H _ _ v u Q I rx ry ⟨a, b, xs', ys', rfl, rfl, e1, e2, r1.length ▸ r2.length ▸ hz, k _ _ q _ _ t3 s3 (.ref a)⟩
    | _ => exact q.elim
  | _ => exact q.elim
theorem pA_sub : PIp X .Sub (low2 X.K T subA) := by
  intro pins s σ H x' y' v u Q I rx ry ⟨x, y, S, R, vx, vy, sr, q, k⟩
  cases vx with
  | int i =>
    cases vy with
    | int j => exact iop_sub pins s σ H _ _ v u Q I rx ry ⟨i, j, rfl, rfl, k _ _ q H _ (.refl H) sr (.int _)⟩
    | _ => exact q.elim
  | _ => exact q.elim
end

/-! ### ranges, texts, enumerate as what is walked -/
/-- lo, lo + 1, .. below hi -/
def rgI (lo hi : Int) : List Val := (List.range (hi - lo).toNat).map fun i => .int (lo + (i : Nat))
theorem rgI_length (lo hi : Int) : (rgI lo hi).length = (hi - lo).toNat := by simp [rgI]
theorem rgI_get {lo hi : Int} {i : Nat} {x : Val} (h : (rgI lo hi)[i]? = some x) : x = .int (lo + (i : Nat)) ∧ i < (hi - lo).toNat := by
  unfold rgI at h
  rw [List.getElem?_map] at h
  by_cases hi' : i < (hi - lo).toNat
  · rw [List.getElem?_range hi'] at h
    cases h
    exact ⟨rfl, hi'⟩
  · rw [List.getElem?_eq_none (by simpa using hi')] at h
    cases h
def iR1 (a : AE) : AI := fun E es S R => a E es S fun x S1 => match x with
  | .int j => -(2 ^ 62) ≤ j ∧ j < 2 ^ 62 ∧ R ⟨rgI 0 j, fun _ => True⟩ S1
  | _ => False
def iR2 (a b : AE) : AI := fun E es S R => a E es S fun x S1 => b E es S1 fun y S2 => match x, y with
  | .int i, .int j => (-(2 ^ 62) ≤ i ∧ i < 2 ^ 62 ∧ -(2 ^ 62) ≤ j ∧ j < 2 ^ 62) ∧ R ⟨rgI i j, fun _ => True⟩ S2
  | _, _ => False
theorem jrep_r {K : PySem.W.Frag} {T : Tb} {H0 : Hp} (lo hi : Int) : JRep K T H0 (Itr lo (hi - lo).toNat) ⟨rgI lo hi, fun _ => True⟩ := by
  refine ⟨fun i S H tt ok sr h => ?_, fun i S H x' H' tt ok sr hy x hx => ?_, fun i S H tt ok sr h => ?_⟩
  · show i < (hi - lo).toNat
    exact rgI_length lo hi ▸ h
  · obtain ⟨e, hy⟩ := hy
    subst e hy
    obtain ⟨e, _⟩ := rgI_get hx
    subst e
    exact ⟨.int _, .refl _, sr⟩
  · show (hi - lo).toNat ≤ i
    exact rgI_length lo hi ▸ h
section
variable {X : Cx} {T : Tb} {W : WX} {tg a b : Expr} {aa ab : AE} {p pos : Pos}
theorem ii_r1 (hg : Gl X "range") (hm : X.mg "range" = none) (ha : IE X T W a aa) (hs : starEach [a] X.env = [(false, eval a X.env)] := by rfl) : II X T W tg (.Call (.Name "range" p) [a] [] pos) (iR1 aa) :=
  ⟨pi_mono (pi_range1 hg hm (pa_cons ha.r pa_nil hs) hs) fun σ H R h => by
    obtain ⟨es, S, E, RR, er, sr, xr, h, k⟩ := h
    refine ⟨es, S, E, _, er, sr, xr, h, fun x S1 h1 H1 x' t1 s1 v1 => ?_⟩
    cases v1 with
    | int j =>
      refine ⟨j, rfl, h1.1, h1.2.1, k _ _ h1.2.2 _ _ t1 s1 ?_⟩
      have e := jrep_r (K := X.K) (T := T) (H0 := H1) 0 j
      rw [Int.sub_zero] at e
      exact e
    | _ => exact h1.elim⟩
theorem ii_r2 (hg : Gl X "range") (hm : X.mg "range" = none) (ha : IE X T W a aa) (hb : IE X T W b ab) (hs : starEach [a, b] X.env = [(false, eval a X.env), (false, eval b X.env)] := by rfl) (hs2 : starEach [b] X.env = [(false, eval b X.env)] := by rfl) :
    II X T W tg (.Call (.Name "range" p) [a, b] [] pos) (iR2 aa ab) :=
  ⟨pi_mono (pi_range2 hg hm (pa_cons ha.r (pa_cons hb.r pa_nil hs2) (by rw [hs, hs2])) hs hs2) fun σ H R h => by
    obtain ⟨es, S, E, RR, er, sr, xr, h, k⟩ := h
    refine ⟨es, S, E, _, er, sr, xr, h, fun x S1 h1 H1 x' t1 s1 v1 => ⟨es, S1, E, _, er.ext t1, s1, xr.ext t1, h1, fun y S2 h2 H2 y' t2 s2 v2 => ?_⟩⟩
    have v1' := v1.ext t2
    cases v1' with
    | int i =>
      cases v2 with
      | int j => exact ⟨i, j, rfl, h2.1, k _ _ h2.2 _ _ (t1.trans t2) s2 (jrep_r i j)⟩
      | _ => exact h2.elim
    | _ => exact h2.elim⟩
/-- a text, sign by sign -/
def signs (x : Str) : List Val := x.cps.toList.map fun c => .str ⟨#[c]⟩
def iStrA (a : AE) : AI := fun E es S R => a E es S fun x S1 => match x with
  | .str z => R ⟨signs z, fun _ => True⟩ S1
  | _ => False
theorem jrep_s {K : PySem.W.Frag} {H0 : Hp} (z : Str) : JRep K T H0 (Its z) ⟨signs z, fun _ => True⟩ := by
  have l : (signs z).length = z.cps.size := by simp [signs]
  refine ⟨fun i S H tt ok sr h => ?_, fun i S H x' H' tt ok sr hy x hx => ?_, fun i S H tt ok sr h => ?_⟩
  · show i < z.cps.size
    exact l ▸ h
  · obtain ⟨e, c, hc, hy⟩ := hy
    subst e hy
    simp only [signs, List.getElem?_map] at hx
    have e2 : z.cps.toList[i]? = some c := by rw [Array.getElem?_toList]; exact hc
    rw [e2] at hx
    cases hx
    exact ⟨.str _, .refl _, sr⟩
  · show z.cps.size ≤ i
    exact l ▸ h
theorem ii_str (ha : IE X T W a aa) : II X T W tg a (iStrA aa) := ⟨pi_mono (pi_str ha.r) fun σ H R h => by
    obtain ⟨es, S, E, RR, er, sr, xr, h, k⟩ := h
    refine ⟨es, S, E, _, er, sr, xr, h, fun x S1 h1 H1 x' t1 s1 v1 => ?_⟩
    cases v1 with
    | str z => exact ⟨z, rfl, k _ _ h1 _ _ t1 s1 (jrep_s z)⟩
    | _ => exact h1.elim⟩
/-- list(range(..)) -/
def aLr1 (a : AE) : AE := fun E es S R => a E es S fun x S1 => match x with
  | .int j => RgOk 0 j ∧ ∀ p, S1 p = none → R (.ref p) (ups S1 p (.lst (rgI 0 j)))
  | _ => False
def aLr2 (a b : AE) : AE := fun E es S R => a E es S fun x S1 => b E es S1 fun y S2 => match x, y with
  | .int i, .int j => RgOk i j ∧ ∀ p, S2 p = none → R (.ref p) (ups S2 p (.lst (rgI i j)))
  | _, _ => False
theorem vreps_rg {K : PySem.W.Frag} {H : Hp} (i j : Int) : VReps K H (rgI i j) (rgV i j) := by
  unfold rgI rgV
  generalize List.range (j - i).toNat = l
  induction l with
  | nil => exact .nil
  | cons a l ih => exact .cons (.int _) ih
theorem ie_lr1 {p2 pos2 : Pos} (hc : X.calm = true) (hg : Gl X "list") (hm : X.mg "list" = none) (hg2 : Gl X "range") (hm2 : X.mg "range" = none) (ha : IE X T W a aa) (na : starEach [a] X.env = (false, eval a X.env) :: starEach [] X.env := by rfl)
    (nb : starEach [.Call (.Name "range" p2) [a] [] pos2] X.env = (false, eval (.Call (.Name "range" p2) [a] [] pos2) X.env) :: starEach [] X.env := by rfl) : IE X T W (.Call (.Name "list" p) [.Call (.Name "range" p2) [a] [] pos2] [] pos) (aLr1 aa) :=
  ⟨pe_mono (pe_listRg hc hg hm (prg_1 hg2 hm2 ha.r na) nb) fun σ H Q h => by
    obtain ⟨es, S, E, R, er, sr, xr, h, k⟩ := h
    refine ⟨es, S, E, _, er, sr, xr, h, fun x S1 h1 H1 x' t1 s1 v1 => ?_⟩
    cases v1 with
    | int j => exact ⟨j, rfl, h1.1, fun p hp => newLst s1 hp (vreps_rg 0 j) h1.2 fun v S' hv H' v' t s r => k _ _ hv _ _ (t1.trans t) s r⟩
    | _ => exact h1.elim⟩
theorem ie_lr2 {p2 pos2 : Pos} (hc : X.calm = true) (hg : Gl X "list") (hm : X.mg "list" = none) (hg2 : Gl X "range") (hm2 : X.mg "range" = none) (ha : IE X T W a aa) (hb : IE X T W b ab) (na : starEach [a, b] X.env = (false, eval a X.env) :: starEach [b] X.env := by rfl)
    (nb : starEach [b] X.env = (false, eval b X.env) :: starEach [] X.env := by rfl) (hp : (backTo pos2 (starEach [b] X.env)).any (·.1) = false := by rfl)
    (nc : starEach [.Call (.Name "range" p2) [a, b] [] pos2] X.env = (false, eval (.Call (.Name "range" p2) [a, b] [] pos2) X.env) :: starEach [] X.env := by rfl) : IE X T W (.Call (.Name "list" p) [.Call (.Name "range" p2) [a, b] [] pos2] [] pos) (aLr2 aa ab) :=
  ⟨pe_mono (pe_listRg hc hg hm (prg_2 hg2 hm2 ha.r hb.r na nb hp) nc) fun σ H Q h => by
    obtain ⟨es, S, E, R, er, sr, xr, h, k⟩ := h
    refine ⟨es, S, E, _, er, sr, xr, h, fun x S1 h1 H1 x' t1 s1 v1 => ⟨es, S1, E, _, er.ext t1, s1, xr.ext t1, h1, fun y S2 h2 H2 y' t2 s2 v2 => ?_⟩⟩
    have v1' := v1.ext t2
    cases v1' with
    | int i =>
      cases v2 with
      | int j => exact ⟨i, j, rfl, rfl, h2.1, fun p hp => newLst s2 hp (vreps_rg i j) h2.2 fun v S' hv H' v' t s r => k _ _ hv _ _ ((t1.trans t2).trans t) s r⟩
      | _ => exact h2.elim
    | _ => exact h2.elim⟩
end
end A3

set_option Elab.async false
set_option linter.all false
set_option maxRecDepth 100000
set_option maxHeartbeats 4000000
namespace A3
open PySem PySem.Spec PyProof.Rows L2

/-! ### the program's errors: classes whose __init__ calls ValueError's -/
def oexB (K : PySem.W.Frag) (C : Addr) : Bool := (match K.lookup C with
  | some ⟨.type "type", _, .cls cd, sl⟩ => (match cd.mro, sl.toList with
    | .ref C' :: bm, [_, _, _, _, some (.builtin n), _] => C' == C && n == "ValueError.__new__" && !cd.hasDel && cd.hasDict && PySem.HandSPX.refsVE bm
    | _, _ => false)
  | _ => false) && (decide (PySem.W.findIn K (.ref C) "__setattr__" = some (some (.builtin "object.__setattr__"))) && (decide (PySem.W.subIn K (.ref C) (.type "BaseException") = some true) && (decide (PySem.W.typeIn K (.ref C) = some (.type "type")) && PySem.W.keepIn K (.ref C))))
theorem oexB_ok {K : PySem.W.Frag} {C : Addr} (h : oexB K C = true) : OexC K C := by
  unfold oexB at h
  rw [Bool.and_eq_true, Bool.and_eq_true, Bool.and_eq_true, Bool.and_eq_true, decide_eq_true_eq, decide_eq_true_eq, decide_eq_true_eq] at h
  obtain ⟨h0, h1, h2, h3, h4⟩ := h
  refine ⟨?_, h1, h2, h3, h4⟩
  split at h0
  · rename_i dd cd sl ho
    split at h0
    · rename_i C' bm k0 k1 k2 k3 n k5 hm hs
      simp only [Bool.and_eq_true, beq_iff_eq, Bool.not_eq_true'] at h0
      obtain ⟨⟨⟨⟨rfl, rfl⟩, hdel⟩, hdi⟩, ht⟩ := h0
      obtain ⟨nm, bs, mro, ns, qn, hd, sn, sub, ab, col, del⟩ := cd
      dsimp only at hm hdel hdi
      subst hm hdel hdi
      have hsl : sl = #[k0, k1, k2, k3, some (.builtin "ValueError.__new__"), k5] := by
        apply Array.toList_inj.mp
        rw [hs]
      subst hsl
      exact ⟨nm, qn, ns, bs, bm, sn, sub, ab, col, dd, k0, k1, k2, k3, k5, ho, ht⟩
    · cases h0
  · cases h0

section
variable {X : Cx} {C : Addr} {m x : Str} {mc : Value} {f : Addr} {fd : FuncData} {ps : List Str} {sp : Sp} {k : Nat} {CX : CXT} {E : XK} {o e : Expr} {es : List Expr} {t : TA} {apos pos p : Pos}
/-- C.m(e, ..): a plain def read off a class -/
theorem pe_cfn {pl : Sem Bool} (he : PE X o (tC (.ref C))) (r : ClX.CRead X.K C mc) (c : ClX.CVal X.K C mc m (.ref f) (.ref f)) (hk : PySem.W.keepIn X.K (.ref f) = true) (F : L2.FnOk X.prog X.w X.K X.mg X.base CX k f fd ps sp) (hr : L2.Room k X.A) (hb : Binds X.K fd ps []) (hx : Passes CX X E) (ha : PA X (e :: es) t)
    (hst : starEach (e :: es) X.env = (false, eval e X.env) :: starEach es X.env := by rfl) (hpl : (backTo pos (starEach es X.env)).any (·.1) = false := by rfl)
    (ht : eval (.Call (.Attribute o m apos) (e :: es) [] pos) X.env = (do
      let ov ← eval o X.env
      standAt apos.atName
      let (f, first) ← holding [ov] (getMethod ov m pl)
      callWith pos f first (backTo pos (starEach (e :: es) X.env)) (backToKw pos (keywordEach [] X.env))) := by rfl) :
    PE X (.Call (.Attribute o m apos) (e :: es) [] pos) (tCall sp [] E t) := by
  refine ⟨fun pins s σ H Q I h => ?_⟩
  refine PySem.W.methodCall_KW (pl := pl) (thn (he.run pins s σ H (fun x' H1 => x' = .ref C ∧ H1 = H) I ⟨rfl, rfl⟩) fun u s1 ⟨x', H1, I1, rx, ex, eH⟩ => ?_) ht
  subst ex
  rw [eH] at I1
  obtain rfl : u = Value.ref C := rx
  refine PySem.W.method_cls I1.kIn r.ga (ClX.getcval_ok I1 r c fun s2 I2 => ?_)
  refine PySem.W.callWith_K (first := []) (h₀ := X.base) I2.ok.mod.kin hk (thn (ha.run pos pins s2 σ H _ I2 h) fun us s3 ⟨vs, H2, I3, rv, q⟩ => ⟨I3.kIn, ?_⟩) hst hpl
  exact run_fn F hr hb .nil hx I3 rv q
/-- TermError.__init__(self), called of an error that is being made -/
def spTE (K : PySem.W.Frag) : Sp := fun vs H Q _ => ∃ a C : Addr, vs = [.ref a] ∧ OexC K C ∧ H a = some (exo a C none) ∧ Q .non H
/-- .. of an error that keeps a field -/
def spTF (K : PySem.W.Frag) (f : Str) : Sp := fun vs H Q _ => ∃ (a C : Addr) (y : V), vs = [.ref a, y] ∧ OexC K C ∧ PySem.W.findIn K (.ref C) f = some none ∧ H a = some (exo a C none) ∧
  ∀ dx, H dx = none → dx ≠ a → Q .non (upd (upd H dx (exd dx [(f, y)])) a (exo a C (some dx)))
theorem mk_endn {pins : List (Addr × Obj)} {σ : L2.St} {H1 H2 : Hp} {Q : XK} {hp hp2 h2 : Heap} {g1 g2 : Array GenState} {d1 d2 : Drawn} {t1 t2 : Nat} {os1 os2 : OsState} {a : Addr} (T : Raises X (.ref C)) (I1 : Inv X pins σ H1 ⟨hp, g1, d1, t1, os1⟩)
    (ha : hp.objs.size ≤ a) (k : ∀ b o, hp.get? b = some o → hp2.get? b = some o) (un : Un (frs X.stack) [] (upd H1 a (exo a C none)) H2 hp2 h2) (hok : HOk X.prog X.w H2 h2) (ho : os2 = os1) (hb : AllBare g2)
    (ea : H2 a = some (exo a C none)) (q : Q (.ref C) none (del H2 a)) : MkP X pins σ Q (.ref a) ⟨h2, g2, d2, t2, os2⟩ := by
  obtain ⟨t0, hoe⟩ := exo_at hok ea
  have hn : H1 a = none := I1.hok.fresh ha
  obtain ⟨G, g1', g2'⟩ := restrict h2 fun b => decide (b ≠ a)
  have gk : ∀ b, b ≠ a → G.get? b = h2.get? b := fun b hb => g1' b (decide_eq_true hb)
  have ge : G.get? a = none := g2' a (by simp)
  have nha : ∀ {b : Addr} {o : Obj}, hp.get? b = some o → b ≠ a := fun {b o} z => Nat.ne_of_lt (Nat.lt_of_lt_of_le (Heap.lt_size z) ha)
  have up : ∀ {b : Addr}, b ≠ a → H1 b = none → upd H1 a (exo a C none) b = none := fun {b} hb n => by rw [upd_ne hb]; exact n
  have U : Un (frs X.stack) [] H1 (del H2 a) hp G := {
    keep := fun b o z n hf hx => by rw [gk b (nha z)]; exact un.keep b o (k b o z) (up (nha z) n) hf hx
    slot := fun b o z n hf hx => by rw [gk b (nha z)]; exact un.slot b o (k b o z) (up (nha z) n) hf hx
    free := fun b o z n hx => by rw [del_ne (nha z)]; exact un.free b o (k b o z) (up (nha z) n) hx
    there := fun b o z hx => by rw [gk b (nha z)]; exact un.there b o (k b o z) hx
    tups := fun b xs z => by rw [del_ne (ne_of_none z hn)]; exact un.tups b xs (by rw [upd_ne (ne_of_none z hn)]; exact z)
    frzs := fun b o v z => by rw [del_ne (ne_of_none z hn)]; exact un.frzs b o v (by rw [upd_ne (ne_of_none z hn)]; exact z)
    tbls := fun b ps z => by rw [del_ne (ne_of_none z hn)]; exact un.tbls b ps (by rw [upd_ne (ne_of_none z hn)]; exact z) }
  have hok3 : HOk X.prog X.w (del H2 a) G := fun b o z => by
    have hba : b ≠ a := fun e => by
      rw [e, del_same] at z
      cases z
    rw [del_ne hba] at z
    have noa : ∀ {c : Addr}, H2 c = some (.own b) → c ≠ a := fun {c} hc => at_ne ea hc exo_own
    exact (hok b o z).stay (fun c v hc y => by
        have hca : c ≠ a := by
          rcases hc with hc | hc
          · rw [hc]; exact hba
          · exact noa hc
        rw [gk c hca]
        exact y)
      (fun c hc => by rw [del_ne (noa hc)]; exact hc) (fun c xs hc => by rw [del_ne (at_ne ea hc exo_tup)]; exact hc)
  have J : Inv X pins σ (del H2 a) ⟨G, g2, d2, t2, os2⟩ := I1.call' (ch := []) ho U hok3 hb (fun b z => absurd z (by simp))
  refine ⟨a, _, _, ⟨G, g2, d2, t2, os2⟩, _, .ref C, none, rfl, J, fun b o z => ?_, ge, hoe, ⟨rfl, rfl⟩, rfl, rfl, del_same, rfl, hb, T, q⟩
  by_cases hba : b = a
  · rw [hba, ge] at z
    cases z
  · exact (gk b hba).symm.trans z
theorem del_upd {H : Hp} {a : Addr} {o : HO} (h : H a = none) : del (upd H a o) a = H := by
  funext b
  by_cases e : b = a
  · subst e; rw [del_same, h]
  · rw [del_ne e, upd_ne e]
/-- C() -/
theorem pmk_e0 {fI : Addr} (T : OexC X.K C) (iC : PySem.W.findIn X.K (.ref C) "__init__" = some (some (.ref fI))) (tI : PySem.W.typeIn X.K (.ref fI) = some (.type "function"))
    (F1 : L2.FnOk X.prog X.w X.K X.mg X.base (L2.CX X.prog X.w) k fI fd ["self"] (spTE X.K)) (hr : L2.Room (k + 1) X.A) (hb : Binds X.K fd ["self"] []) (hg : Gl X x) (hm : X.mg x = some (.ref C)) (hdb : (x == ("__debug__" : Str)) = false := by decide) :
    PMk X (.Call (.Name x p) [] [] pos) (fun _ H Q => Q (.ref C) none H) := by
  intro pins s σ H Q I h
  obtain ⟨nm, q, N, bs, bm, sn, sub, ab, col, dd, k0, k1, k2, k3, k5, hC, hbm⟩ := T.cls
  refine wpAny_Call_Name_kw (ld_glob I hg hm ?_ hdb)
  refine PySem.W.callWith_K0 I.kIn T.kC ?_
  show wpAny _ _ (call (.ref C) []) _ _ _
  obtain ⟨hp, g, dr, tk, os⟩ := s
  have hsz : hp.objs.size ≤ hp.objs.size + 1 := Nat.le_succ _
  have hn : H (hp.objs.size + 1) = none := I.hok.fresh hsz
  have kk : ∀ b o, hp.get? b = some o → ((hp.push (PySem.W.kdv_tup [])).push (PySem.HandSPX.excO C hp.objs.size)).get? b = some o := fun b o e => Heap.get?_push_of_some _ (Heap.get?_push_of_some _ e)
  have hget : ((hp.push (PySem.W.kdv_tup [])).push (PySem.HandSPX.excO C hp.objs.size)).get? (hp.objs.size + 1) = some (PySem.HandSPX.excO C hp.objs.size) := by heap_get
  have I2 : Inv X pins σ (upd H (hp.objs.size + 1) (exo (hp.objs.size + 1) C none)) ⟨(hp.push (PySem.W.kdv_tup [])).push (PySem.HandSPX.excO C hp.objs.size), g, dr, tk, os⟩ :=
    I.laid (t' := tk) (a := hp.objs.size + 1) (o := exo (hp.objs.size + 1) C none) (h' := (hp.push (PySem.W.kdv_tup [])).push (PySem.HandSPX.excO C hp.objs.size)) kk hsz (exo_ok hget)
  refine wpAny_call (PySem.HandSPX.call_own F.excBase_ValueError (fun Y => PySem.HandSPX.refsVE_contains Y bm hbm) (I.kIn _ _ hC) (PySem.W.looks_findIn I.kIn iC) (fun self => PySem.W.bind_fn I.kIn self tI) (by show 0 ≤ sizeLine; exact Nat.zero_le _)
    (codeAny_mono (F1.run _ X.stack _ _ ⟨[Value.ref (hp.objs.size + 1)], []⟩ [Value.ref (hp.objs.size + 1)] [V.ref (hp.objs.size + 1)] (fun v H2 => v = .non ∧ H2 = upd H (hp.objs.size + 1) (exo (hp.objs.size + 1) C none)) (fun _ _ _ => False) (hr.make C [] []) (I2.env0.make C [] [])
      (hb _ [Value.ref (hp.objs.size + 1)] I2.kIn rfl) (.cons rfl .nil) ⟨_, C, rfl, T, upd_same, rfl, rfl⟩) fun r s' hq' => ?_))
  cases r with
  | error er =>
    obtain ⟨_, _, _, _, _, _, _, _, _, _, _, _, z⟩ := hq'
    exact z.elim
  | ok fl =>
    cases fl with
    | ret u =>
      obtain ⟨v, H2, os2, bare2, un2, hok2, rv, ev, eH⟩ := hq'
      subst ev
      obtain ⟨h2, g2, d2, t2, os'⟩ := s'
      refine ⟨rv, mk_endn (raises_own T.exC T.tyC) I hsz kk un2 hok2 os2 bare2 (by rw [eH]; exact upd_same) ?_⟩
      rw [eH, del_upd hn]
      exact h
    | next => exact False.elim hq'
    | brk => exact False.elim hq'
    | cont => exact False.elim hq'
end

/-! ### raise -/
def sRaise0 (C : Addr) : AS := fun D es S => D.ex ⟨C, none⟩ es S
def sRaise1 (C : Addr) (f : Str) (a : AE) : AS := fun D es S => a (D.xe es) es S fun v S1 => D.ex ⟨C, some [(f, v)]⟩ es S1
section
variable {X : Cx} {T : Tb} {W : WX} {C fI : Addr} {x : Str} {fd : FuncData} {k : Nat} {p pos rpos : Pos} {e : Expr} {ae : AE}
theorem is_raise0 (hc : X.calm = true) (tk : Takes X W) (To : OexC X.K C) (iC : PySem.W.findIn X.K (.ref C) "__init__" = some (some (.ref fI))) (tI : PySem.W.typeIn X.K (.ref fI) = some (.type "function"))
    (F1 : L2.FnOk X.prog X.w X.K X.mg X.base (L2.CX X.prog X.w) k fI fd ["self"] (spTE X.K)) (hr : L2.Room (k + 1) X.A) (hb : Binds X.K fd ["self"] []) (hg : Gl X x) (hm : X.mg x = some (.ref C)) (hdb : (x == ("__debug__" : Str)) = false := by decide) :
    IS X T W (.Raise (some (.Call (.Name x p) [] [] pos)) none rpos) (sRaise0 C) := ⟨ps_mono (ps_raise hc tk (pmk_e0 To iC tI F1 hr hb hg hm hdb)) fun D σ H h => by
    obtain ⟨es, S, Da, er, sr, q, dr⟩ := h
    exact dr.ex _ _ _ q _ _ _ (.refl H) er sr rfl⟩
theorem is_raise1 {f : Str} (hc : X.calm = true) (tk : Takes X W) (To : OexC X.K C) (iC : PySem.W.findIn X.K (.ref C) "__init__" = some (some (.ref fI))) (tI : PySem.W.typeIn X.K (.ref fI) = some (.type "function")) (nf : PySem.W.findIn X.K (.ref C) f = some none) {ps : List Str} (hps : ps.length = 2)
    (F1 : L2.FnOk X.prog X.w X.K X.mg X.base (L2.CX X.prog X.w) k fI fd ps (spTF X.K f)) (hr : L2.Room (k + 1) X.A) (hb : Binds X.K fd ps []) (hg : Gl X x) (hm : X.mg x = some (.ref C)) (he : IE X T W e ae) (hdb : (x == ("__debug__" : Str)) = false := by decide) (hs : starEach [e] X.env = (false, eval e X.env) :: starEach [] X.env := by rfl) :
    IS X T W (.Raise (some (.Call (.Name x p) [e] [] pos)) none rpos) (sRaise1 C f ae) := ⟨ps_mono (ps_raise hc tk (pmk_oex To iC tI F1 hr hb .nil passL hg hm (pa_cons he.r pa_nil hs) hdb hs)) fun D σ H h => by
    obtain ⟨es, S, Da, er, sr, q, dr⟩ := h
    refine ⟨es, S, _, _, er, sr, dr.xe er, q, fun v S1 h1 H1 v' t1 s1 r1 => ⟨by show 1 ≤ 1000; decide, fun a ha => ⟨a, C, v', rfl, To, nf, upd_same, fun dx hdx hne => ⟨rfl, dx, [(f, v')], upd_same, by rw [upd_ne hne, upd_same], ?_, ?_⟩⟩⟩⟩
    · rw [upd_ne hne] at hdx; exact hdx
    · have hd1 : H1 dx = none := by rw [upd_ne hne] at hdx; exact hdx
      have eH : upd (del (upd (upd (upd H1 a (exo a C none)) dx (exd dx [(f, v')])) a (exo a C (some dx))) a) dx (.xd [(f, v')]) = upd H1 dx (.xd [(f, v')]) := by
        funext b
        by_cases e1 : b = dx
        · subst e1; rw [upd_same, upd_same]
        · rw [upd_ne e1, upd_ne e1]
          by_cases e2 : b = a
          · subst e2; rw [del_same, ha]
          · rw [del_ne e2, upd_ne e2, upd_ne e1, upd_ne e2]
      rw [eH]
      have t2 : TupX X.K H1 (upd H1 dx (.xd [(f, v')])) := .upd (noTup_none hd1)
      exact dr.ex _ _ _ h1 _ _ _ (t1.trans t2) (er.ext (t1.trans t2)) (s1.laid hd1) ⟨dx, [(f, v')], rfl, upd_same, .cons (r1.ext t2) .nil⟩⟩
end
end A3

set_option Elab.async false
set_option linter.all false
set_option maxRecDepth 100000
set_option maxHeartbeats 4000000
namespace A3
open PySem PySem.Spec PyProof.Rows L2

/-! ### try .. except C as n -/
abbrev ASu := Addr → Addr → Option Addr → AS
def sTry (K : PySem.W.Frag) (C : Addr) (i : Nat) (body : AS) (su : ASu) : AS := fun D es S =>
  body { D with ex := fun x es' S' => ∃ b, PySem.W.exmOne K (.ref x.C) (.ref C) = some b ∧
    (b = true → ∀ a, match x.fs with
      | none => su a x.C none { nx := fun es2 S2 => D.nx (es2.set i none) S2, rt := D.rt, bk := fun es2 S2 => D.bk (es2.set i none) S2, ct := fun es2 S2 => D.ct (es2.set i none) S2 } (es'.set i (some (.ref a))) S'
      | some fs => ∀ d, (∀ c, S' d = some c → ∃ gs, c = .xd gs) → su a x.C (some d) { nx := fun es2 S2 => D.nx (es2.set i none) S2, rt := D.rt, bk := fun es2 S2 => D.bk (es2.set i none) S2, ct := fun es2 S2 => D.ct (es2.set i none) S2 } (es'.set i (some (.ref a))) (ups S' d (.xd fs))) ∧
    (b = false → D.ex x es' S') } es S
theorem SRep.over {K : PySem.W.Frag} {T : Tb} {S : Store} {H : Hp} {a : Addr} {c : Cell} (r : SRep K T S H) (h : CRep K H a c) : SRep K T (ups S a c) H where
  cell := fun b d q => by
    by_cases e : b = a
    · subst e; rw [ups_same] at q; cases q; exact h
    · rw [ups_ne e] at q; exact r.cell b d q
  tabs := r.tabs
section
variable {X : Cx} {T : Tb} {W : WX} {x n : Str} {C : Addr} {i : Nat} {body suite : List Stmt} {b₀ : Stmt} {np pos pos' : Pos} {tb : AS} {su : ASu}
theorem is_try (hs : X.stack = X.env :: X.outer) (hf : X.env.frame = some X.env.locals) (hN : X.N.Nodup) (hi : X.N[i]? = some n) (hln : X.env.kindOf n = some .local) (hc : Names X x (.ref C)) (tk : Takes X W)
    (hb : ∀ (W : WX) (pn : List (Addr × Obj)) (xe : Value → Shared → Prop), Takes (X.tr pn xe) W → PassesOwn (model X.prog X.w) X.A X.env xe → ISs (X.tr pn xe) T W body tb)
    (hsu : ∀ (a : Addr) (oe : Obj) (C' : Addr) (d : Option Addr) (pn : List (Addr × Obj)), Zc (.ref C') d oe → (∃ vs, oe.data = .fields vs) → ISs (X.suite a ((a, oe) :: pn)) T W0 (b₀ :: suite) (su a C' d)) :
    IS X T W (.Try body [.ExceptHandler (some (.Name x np)) (some n) (b₀ :: suite) pos'] [] [] pos) (sTry X.K C i tb su) := ⟨ps_mono
      (ps_try_as (tb := fun W => lowS X.K T W tb) (ts := fun a cls d D σ H => ∃ C', cls = .ref C' ∧ lowS X.K T W0 (su a C' d) D σ H) hs hf hN hi hln hc tk (fun W pn xe tk po => (hb W pn xe tk po).r)
        (fun a oe cls d pn hz hv => ⟨fun pins s σ H D I h => by
          obtain ⟨C', e, h⟩ := h
          subst e
          exact (hsu a oe C' d pn hz hv).r.run pins s σ H D I h⟩)) fun D σ H h => by
  obtain ⟨es, S, Da, er, sr, q, dr⟩ := h
  refine ⟨es, S, _, er, sr, q, { dr with ex := fun xn es' S' hx σ' H' d t' er' sr' dc => ?_ }⟩
  obtain ⟨b, e1, e2, e3⟩ := hx
  refine ⟨b, e1, fun hb a ha => ⟨xn.C, rfl, ?_⟩, fun hb => dr.ex _ _ _ (e3 hb) _ _ _ t' er' sr' dc⟩
  have er2 : ERep X.K H' (es'.set i (some (.ref a))) (σ'.set i (some (.ref a))) := er'.set (.ref a) i
  have dr2 : DRep X.K T W0 H' { nx := fun es2 S2 => Da.nx (es2.set i none) S2, rt := Da.rt, bk := fun es2 S2 => Da.bk (es2.set i none) S2, ct := fun es2 S2 => Da.ct (es2.set i none) S2 }
      { nx := fun σ' H' => D.nx (σ'.set i none) H', rt := D.rt, bk := fun σ' H' => D.bk (σ'.set i none) H', ct := fun σ' H' => D.ct (σ'.set i none) H' } :=
    { nx := fun es2 S2 h2 σ2 H2 t2 er2 sr2 => dr.nx _ _ h2 _ _ (t'.trans t2) (er2.del i) sr2, rt := fun v S2 h2 H2 v' t2 s2 r2 => dr.rt _ _ h2 _ _ (t'.trans t2) s2 r2,
      bk := fun es2 S2 h2 σ2 H2 t2 er2 sr2 => dr.bk _ _ h2 _ _ (t'.trans t2) (er2.del i) sr2, ct := fun es2 S2 h2 σ2 H2 t2 er2 sr2 => dr.ct _ _ h2 _ _ (t'.trans t2) (er2.del i) sr2, ex := fun _ _ _ h => h.elim }
  have e4 := e2 hb a
  cases hfs : xn.fs with
  | none =>
    rw [hfs] at e4 dc
    have dn : d = none := dc
    subst dn
    exact ⟨_, S', _, er2, sr', e4, dr2⟩
  | some fs =>
    rw [hfs] at e4 dc
    obtain ⟨dd, ys, hd, hH, rp⟩ := dc
    subst hd
    refine ⟨_, _, _, er2, sr'.over (c := .xd fs) ⟨ys, hH, rp⟩, e4 dd (fun c hc => ?_), dr2⟩
    have cr := sr'.cell dd c hc
    cases c with
    | xd gs => exact ⟨gs, rfl⟩
    | lst xs => obtain ⟨_, e, _⟩ := cr; rw [hH] at e; cases e
    | rd xs => obtain ⟨⟨_, _, e⟩, _⟩ := cr; rw [hH] at e; cases e
    | ft xs => obtain ⟨_, _, e, _⟩ := cr; rw [hH] at e; cases e
    | dk xs => obtain ⟨_, e, _⟩ := cr; rw [hH] at e; cases e
    | dt xs => obtain ⟨_, e, _⟩ := cr; rw [hH] at e; cases e
    | ins _ _ _ => obtain ⟨_, e, _⟩ := cr; rw [hH] at e; cases e
    | clo _ _ _ => obtain ⟨e, _⟩ := cr; rw [hH] at e; cases e
    | nfn _ => rw [cr.1] at hH; cases hH⟩
end
/-- code that is never come to -/
def sNever : AS := fun _ _ _ => False
theorem is_never {X : Cx} {T : Tb} {W : WX} {s : Stmt} : IS X T W s sNever := ⟨ps_mono ps_never fun D σ H h => by obtain ⟨_, _, _, _, _, q, _⟩ := h; exact q⟩
theorem iss_never {X : Cx} {T : Tb} {W : WX} {s : List Stmt} : ISs X T W s sNever := ⟨pss_mono pss_never fun D σ H h => by obtain ⟨_, _, _, _, _, q, _⟩ := h; exact q⟩

/-! ### isinstance(error, C) in an except suite -/
def aIsE (K : PySem.W.Frag) (a C : Addr) (d : Option Addr) (c : Value) (i : Nat) : AE := fun _ es S R => match es[i]? with
  | some (some (.ref b)) => b = a ∧ d = none ∧ ExcC K C ∧ ∃ r, PySem.W.kitOne K (.ref C) c = some r ∧ R (.bl r) S
  | _ => False
theorem ie_isE {X : Cx} {T : Tb} {a C : Addr} {d : Option Addr} {oe : Obj} {pn : List (Addr × Obj)} {i : Nat} {x n y : Str} {p p1 p2 pos : Pos} {c : Value} {cv : V} (hz : Zc (.ref C) d oe) (hf : ∃ vs, oe.data = .fields vs)
    (hg : Gl X x) (hm : X.mg x = none) (hv : bootBuiltins x = some (.builtin "isinstance")) (ha : PE (X.suite a ((a, oe) :: pn)) (.Name n p1) (tVar i)) (hc : PE (X.suite a ((a, oe) :: pn)) (.Name y p2) (tC cv)) (hcv : ∀ u, RelV cv u → u = c)
    (hn : x ≠ "__name__" := by decide) (hdb : (x == ("__debug__" : Str)) = false := by decide) :
    IE (X.suite a ((a, oe) :: pn)) T W0 (.Call (.Name x p) [.Name n p1, .Name y p2] [] pos) (aIsE X.K a C d c i) := ⟨⟨fun pins s σ H Q I h => by
  obtain ⟨es, S, E, R, er, sr, xr, h, k⟩ := h
  unfold aIsE at h
  split at h
  · rename_i b eb
    obtain ⟨rfl, rfl, hC, r, hr, q⟩ := h
    obtain ⟨y', e2, ry⟩ := er.get i _ eb
    cases ry
    exact (pe_callB (call_isE hC hz hf) (show Gl (X.suite b ((b, oe) :: pn)) x from hg) hm hv (pa_cons ha (pa_cons hc pa_nil)) hn hdb).run pins s σ H Q I
      ⟨_, e2, cv, c, r, rfl, hcv, hr, k _ _ q H _ (.refl H) sr (.bl _)⟩
  · exact h.elim⟩⟩

/-- a code object is no function -/
theorem code_ne_fn {P : Program} {w : World} {H : Hp} {h : Heap} {a : Addr} {q : Str} {F : NdefX.NF} (hok : HOk P w H h) (e : H a = some (LamX.CodeO a q)) : some (LamX.CodeO a q) ≠ some (NdefX.FnO a F) := fun z => by
  obtain ⟨oc, vs, t, h1, h2, _⟩ := (hok a _ e).1
  obtain ⟨od, sl, doc, pm, ctv, h3⟩ := NdefX.fnO_at hok (e.trans z)
  rw [h1] at h3
  cases h3
  cases h2
/-! ### a lambda handed to a def that calls it -/
/-- a(): in the def that got the lambda (at f, its code object at c', made over the slots σ0) -/
def aAct (f c' : Addr) (q : Str) (σ0 : St) (ab : AE) : AE := fun E es S R => es[0]? = some (some (.ref f)) ∧ ∃ es0, S c' = some (.clo q es0 σ0) ∧ ab E es0 S R
/-- the context in which the def that got the lambda runs -/
abbrev zCx (X : Cx) (Ng : List Str) (x : Str) (sg : Scope) (g : Addr) (cdg : Value) (s : Shared) (H : Hp) : Cx := cxOf C8.CX0 X.prog X.w X.K X.mg X.base Ng x sg g cdg X.A X.stack s H C8.E0
/-- what such a def's body must be -/
def GivesA (X : Cx) (T : Tb) (Ng : List Str) (x : Str) (sg : Scope) (g : Addr) (cdg : Value) (bg : List Stmt) (a : Str) (rd : AE → AS) : Prop :=
  ∀ (aa : AE) (s : Shared) (H : Hp),
    (∀ (W : WX) (pn : List (Addr × Obj)) (xe : Value → Shared → Prop) (p1 p2 : Pos), Takes ((zCx X Ng x sg g cdg s H).tr pn xe) W → IE ((zCx X Ng x sg g cdg s H).tr pn xe) T W (.Call (.Name a p1) [] [] p2) aa) →
    ISs (zCx X Ng x sg g cdg s H).nox T W0 bg (rd aa)
/-- what stood at c' stands there again -/
def backS (S1 : Store) (c' : Addr) (S' : Store) : Store := fun a => if a = c' then S1 c' else S' a
theorem backS_ext {S1 S' : Store} {c' : Addr} {c : Cell} (h : ∀ a d, a ≠ c' → S1 a = some d → S' a = some d) : ∀ a d, S1 a = some d → backS S1 c' S' a = some d := fun a d e => by
  unfold backS
  by_cases z : a = c'
  · rw [if_pos z, ← z]; exact e
  · rw [if_neg z]; exact h a d z e
def aLam (Ng : List Str) (q : Str) (rd : AE → AS) (ab : AE) : AE := fun E es S R => ∀ f c' σ0, (∀ c, S c' = some c → ∃ q e s, c = .clo q e s) →
  rd (aAct f c' q σ0 ab) { nx := fun _ S' => R .non S', rt := R } (astart Ng [.ref f]) (ups S c' (.clo q es σ0))
def aLam2 (Ng : List Str) (q : Str) (rd : AE → AS) (ab : AE) : AE := fun E es S R => ∀ f c' σ0, (∀ c, S c' = some c → ∃ q e s, c = .clo q e s) →
  rd (aAct f c' q σ0 ab) { nx := fun _ S' => (∃ e s, S' c' = some (.clo q e s)) ∧ R .non (backS S c' S'), rt := fun v S' => (∃ e s, S' c' = some (.clo q e s)) ∧ R v (backS S c' S') } (astart Ng [.ref f]) (ups S c' (.clo q es σ0))
section
variable {X : Cx} {T : Tb} {W : WX}
/-- the call, in that def -/
theorem ie_act {pins : List (Addr × Obj)} {σ : St} {H : Hp} {s : Shared} {Ng : List Str} {qg : Str} {sg : Scope} {g f c' : Addr} {cdg pm ctv : Value} {params : Arguments} {body : Expr} {scope : Scope} {k : Nat} {a : Str} {pn : List (Addr × Obj)} {xe : Value → Shared → Prop} {ab : AE} {p1 p2 : Pos}
    (I : Inv X pins σ H s) (L : LamX.LamS X.env.scope scope)
    (hf : s.heap.get? f = some (PySem.W.kla_obj "<lambda>" (X.env.qual ++ "<lambda>") params body scope (cloFrom X.env.cells scope.names []) pm c' ctv)) (hfn : H f = none) (hfr : f ∉ frs X.stack)
    (hbind : ∀ (q : Str) (cl : List (Str × Addr)) (pm cv ctv : Value),
      bindArgs (PySem.W.kla_fn "<lambda>" q params body scope cl pm cv ctv) ⟨[], []⟩ = pure [])
    (tk : Takes ((zCx X Ng qg sg g cdg s H).tr pn xe) W) (hr : Room (k + 1) (X.A.deeper (envOfC qg sg s.heap.objs.size g cdg)))
    (hbody : ∀ (A : Around) (outer : List Env) (s : Shared) (H : Hp) (E : XK), Room k (A.deeper (LamX.lamEnv X scope s.heap.objs.size f c')) → IE (LamX.lamCx X A outer s H E scope f c') T (fun cls d _ H => E cls d H) body ab)
    (hN : Ng[0]? = some a) (hv : Vis sg a) (hd : (a == ("__debug__" : Str)) = false) (hcd : (a == ("__classdict__" : Str)) = false) :
    IE ((zCx X Ng qg sg g cdg s H).tr pn xe) T W (.Call (.Name a p1) [] [] p2) (aAct f c' (X.env.qual ++ "<lambda>") σ ab) := ⟨⟨fun pinsZ sZ σZ HZ Q IZ h => by
  obtain ⟨esZ, SZ, EZ, R, er, sr, xr, ⟨h0, es0, hS, hab⟩, kq⟩ := h
  obtain ⟨y0, hs, ry⟩ := er.get 0 _ h0
  cases ry
  obtain ⟨hc, er0⟩ := sr.cell c' _ hS
  refine wpAny_Call_Name_kw (thn ((pe_var (pos := p1) (i := 0) hN hv hd hcd).run pinsZ sZ σZ HZ (fun v H1 => v = .ref f ∧ H1 = HZ) IZ ⟨.ref f, hs, rfl, rfl⟩) fun u s1 hu => ?_)
  obtain ⟨v, H1, I1, r1, ev, eH⟩ := hu
  subst ev
  rw [eH] at I1
  have eu : u = Value.ref f := r1
  subst eu
  have of1 := I1.base.keep f _ hf hfn hfr (fun z => nomatch (show f ∈ ([] : List Addr) from z))
  refine PySem.W.callWith_F0 ⟨_, _, _, _, of1⟩ ?_
  have un : Un (frs X.stack) [] H HZ s.heap s1.heap := I1.base
  obtain ⟨⟨oc, vs, t, hoc, hdc, hvc⟩, _, _⟩ := I1.hok c' _ hc
  refine wpAny_call (codeAny_mono (R := CR (L2.CX X.prog X.w) (envOfC qg sg s.heap.objs.size g cdg :: X.stack) X.prog X.w HZ s1 Q (fun cls d H' => W cls d σZ H')) ?rc fun r s' hq => ?fin)
  case rc =>
    show codeAny _ _ (.call (.ref f) ⟨[], []⟩) _ _
    refine PySem.W.kla_callFunE hr.depth of1 rfl L.co L.gen rfl ⟨c', oc, vs, t, rfl, hoc, hdc, hvc⟩ ?_
    rw [hbind]
    refine wpAny_pure (wpAny_newFunctionEnv (fun y hy => (L.own y hy).2) (fun y hy => absurd hy (by simp)) (fun h₁ hns hsb => ⟨I1.nolimit.fresh _ hsb, ?_⟩) L.kind)
    show codeAny _ _ (.expr body (LamX.lamEnv X scope s1.heap.objs.size f c')) _ _
    have kp : ∀ b o, s1.heap.get? b = some o → h₁.get? b = some o := fun b o e => hsb.extBut b o (Nat.ne_of_lt (Heap.lt_size e)) (Heap.get?_push_of_some _ e)
    have J : Inv (LamX.lamCx X (X.A.deeper (envOfC qg sg s.heap.objs.size g cdg)) (envOfC qg sg s.heap.objs.size g cdg :: X.stack) s1 HZ (fun cls d H' => W cls d σZ H') scope f c') [] σ HZ
        { s1 with heap := h₁, toks := s1.toks + ([] : List (Str × Value)).length } := LamX.lam_start2 I L I1.env0 hr.hd un hns kp
    refine PySem.W.kla_codeExpr (wpAny_mono ((hbody _ _ s1 HZ _ (hr.deeper _)).r.run [] _ _ HZ Q J ⟨es0, SZ, EZ, R, er0, sr, fun x S' hx H' d t' s' dq => xr x S' hx H' d t' s' dq, hab, kq⟩) (fun v s' hq => ?_) fun e s' hq => hq)
    obtain ⟨w', H', J', rv, z⟩ := hq
    exact ⟨w', H', J'.os, J'.bare, J'.base, J'.hok, rv, z⟩
  case fin =>
    cases r with
    | error e => exact tk e s' (XE.of_call I1 (fun _ _ _ h => h) hq)
    | ok fl =>
      cases fl with
      | ret u => exact I1.after hq
      | next => exact False.elim hq
      | brk => exact False.elim hq
      | cont => exact False.elim hq⟩⟩
/-- x(lambda: body) -/
theorem ie_lam {x a : Str} {g c P : Addr} {k : Nat} {pg : Arguments} {bg : List Stmt} {sg : Scope} {dV kV doc pm cdv ct oc : Value} {an od : Option Addr} {osl : Array (Option Value)} {Ng : List Str}
    {params : Arguments} {body : Expr} {scope : Scope} {ab : AE} {rd : AE → AS} {p lpos pos : Pos} (hg : Gl X x) (hm : X.mg x = some (.ref g)) (hk : PySem.W.keepIn X.K (.ref g) = true)
    (lk : X.K.lookup g = some ⟨oc, od, .func (PySem.W.fnOf x x pg bg sg dV kV doc pm an cdv ct), osl⟩) (hcg : PySem.W.codeIn X.K cdv x = true)
    (hb : L2.Binds X.K (PySem.W.fnOf x x pg bg sg dV kV doc pm an cdv ct) [a] []) (Sg : FnScope Ng [a] sg) (hNg : Ng[0]? = some a) (hva : Vis sg a)
    (hG : GivesA X T Ng x sg g cdv bg a rd)
    (TB : LamX.TabB X.base X.mg c P) (hcode : X.env.code = .ref c) (hmT : (P, X.env.qual ++ "<lambda>") ∈ T) (hu : ∀ p ∈ T, p.1 = P → p.2 = X.env.qual ++ "<lambda>")
    (hr : Room (k + 2) X.A) (L : LamX.LamS X.env.scope scope) (hdef : defaultsOf params X.env = ([], []))
    (hbind : ∀ (q : Str) (cl : List (Str × Addr)) (pm cv ctv : Value),
      bindArgs (PySem.W.kla_fn "<lambda>" q params body scope cl pm cv ctv) ⟨[], []⟩ = pure [])
    (hbody : ∀ (A : Around) (outer : List Env) (s : Shared) (H : Hp) (E : XK) (f c' : Addr), Room k (A.deeper (LamX.lamEnv X scope s.heap.objs.size f c')) → IE (LamX.lamCx X A outer s H E scope f c') T (fun cls d _ H => E cls d H) body ab)
    (hdb : (x == ("__debug__" : Str)) = false := by decide)
    (hd : (a == ("__debug__" : Str)) = false := by decide)
    (hcd : (a == ("__classdict__" : Str)) = false := by decide) :
    IE X T W (.Call (.Name x p) [.Lambda params body scope lpos] [] pos) (aLam Ng (X.env.qual ++ "<lambda>") rd ab) := ⟨⟨fun pins s σ H Q I h => by
  obtain ⟨es, S, E, R, er, sr, xr, h, kq⟩ := h
  refine wpAny_Call_Name_kw (ld_glob I hg hm ?_ hdb)
  refine PySem.W.callWith_K (h₀ := X.base) I.ok.mod.kin hk ?_ (by rfl) (by rfl)
  show wpAny _ _ (spliced ((false, eval (.Lambda params body scope lpos) X.env) :: backTo pos (starEach [] X.env))) _ _ s
  refine Calls.spliced_cons (LamX.lam_make2 I TB hcode hmT hu sr.tabs hdef (L.has I.ok) fun f c' pm' ctv H1 s' I1 eN T1 hf hfn hfr hco => ?_)
  refine Calls.spliced_nil ⟨I1.kIn, ?_⟩
  have tx : TupX X.K H H1 := fun p ys q => eN p _ q (by simp)
  have s1 : SRep X.K T S H1 := ⟨fun a c q => by
    have cr := sr.cell a c q
    obtain ⟨o, ho, _, _, h3⟩ := cr.there
    exact cr.stay tx (by rw [ho]; exact eN a o ho h3) fun b q e => eN b _ e (by simp [LamX.CodeO]), T1⟩
  have cq : ∀ c, S c' = some c → ∃ q e s, c = .clo q e s := fun c hS => by
    have cr := s1.cell c' c hS
    cases c with
    | clo q e s => exact ⟨q, e, s, rfl⟩
    | lst xs => obtain ⟨_, e, _⟩ := cr; rw [hco] at e; simp [LamX.CodeO] at e
    | rd xs => obtain ⟨⟨_, _, e⟩, _⟩ := cr; rw [hco] at e; simp [LamX.CodeO] at e
    | ft xs => obtain ⟨_, _, e, _⟩ := cr; rw [hco] at e; simp [LamX.CodeO] at e
    | dk xs => obtain ⟨_, e, _⟩ := cr; rw [hco] at e; simp [LamX.CodeO] at e
    | dt xs => obtain ⟨_, e, _⟩ := cr; rw [hco] at e; simp [LamX.CodeO] at e
    | ins _ _ _ => obtain ⟨_, e, _⟩ := cr; rw [hco] at e; simp [LamX.CodeO] at e
    | xd _ => obtain ⟨_, e, _⟩ := cr; rw [hco] at e; simp [LamX.CodeO] at e
    | nfn _ => exact absurd (hco.symm.trans cr.1) (code_ne_fn I1.hok hco)
  have s2 : SRep X.K T (ups S c' (.clo (X.env.qual ++ "<lambda>") es σ)) H1 := s1.over ⟨hco, er.ext tx⟩
  refine wpAny_call (codeAny_mono (R := CR C8.CX0 X.stack X.prog X.w H1 s' Q C8.E0) ?rc fun r s2 hq => ?fin)
  case rc =>
    show codeAny _ _ (.call (.ref g) ⟨[.ref f], []⟩) _ _
    refine LamX.run_ofS (N := Ng) (ps := [a]) (us := [.ref f]) (vs := [.ref f]) lk hcg Sg hr.r I1.env0 (hb s' [.ref f] I1.kIn rfl) (.cons rfl .nil) rfl fun _ => ?_
    have hIS := hG (aAct f c' (X.env.qual ++ "<lambda>") σ ab) s' H1 fun W pn xe p1 p2 tk =>
      ie_act I1 L hf hfn hfr hbind tk (hr.deeper _) (fun A outer s H E hr2 => hbody A outer s H E f c' hr2) hNg hva hd hcd
    refine ⟨_, hIS.r.nox, astart Ng [.ref f], _, _, erep_start Ng (.cons (.ref f) .nil), s2, h f c' σ cq, ?_⟩
    exact { nx := fun _ S' hq σ' H' t _ s => kq _ _ hq _ _ (tx.trans t) s .non, rt := fun v S' hq H' v' t s r => kq _ _ hq _ _ (tx.trans t) s r, bk := fun _ _ h => h.elim, ct := fun _ _ h => h.elim, ex := fun _ _ _ h => h.elim }
  case fin =>
    cases r with
    | error e => exact (show False from hq).elim
    | ok fl =>
      cases fl with
      | ret u => exact I1.after hq
      | next => exact False.elim hq
      | brk => exact False.elim hq
      | cont => exact False.elim hq⟩⟩
/-- x(lambda: body); what was known stays -/
theorem ie_lam2 {x a : Str} {g c P : Addr} {k : Nat} {pg : Arguments} {bg : List Stmt} {sg : Scope} {dV kV doc pm cdv ct oc : Value} {an od : Option Addr} {osl : Array (Option Value)} {Ng : List Str}
    {params : Arguments} {body : Expr} {scope : Scope} {ab : AE} {rd : AE → AS} {p lpos pos : Pos} (hg : Gl X x) (hm : X.mg x = some (.ref g)) (hk : PySem.W.keepIn X.K (.ref g) = true)
    (lk : X.K.lookup g = some ⟨oc, od, .func (PySem.W.fnOf x x pg bg sg dV kV doc pm an cdv ct), osl⟩) (hcg : PySem.W.codeIn X.K cdv x = true)
    (hb : L2.Binds X.K (PySem.W.fnOf x x pg bg sg dV kV doc pm an cdv ct) [a] []) (Sg : FnScope Ng [a] sg) (hNg : Ng[0]? = some a) (hva : Vis sg a)
    (hG : GivesA X T Ng x sg g cdv bg a rd)
    (TB : LamX.TabB X.base X.mg c P) (hcode : X.env.code = .ref c) (hmT : (P, X.env.qual ++ "<lambda>") ∈ T) (hu : ∀ p ∈ T, p.1 = P → p.2 = X.env.qual ++ "<lambda>")
    (hr : Room (k + 2) X.A) (L : LamX.LamS X.env.scope scope) (hdef : defaultsOf params X.env = ([], []))
    (hbind : ∀ (q : Str) (cl : List (Str × Addr)) (pm cv ctv : Value),
      bindArgs (PySem.W.kla_fn "<lambda>" q params body scope cl pm cv ctv) ⟨[], []⟩ = pure [])
    (hbody : ∀ (A : Around) (outer : List Env) (s : Shared) (H : Hp) (E : XK) (f c' : Addr), Room k (A.deeper (LamX.lamEnv X scope s.heap.objs.size f c')) → IE (LamX.lamCx X A outer s H E scope f c') T (fun cls d _ H => E cls d H) body ab)
    (hdb : (x == ("__debug__" : Str)) = false := by decide)
    (hd : (a == ("__debug__" : Str)) = false := by decide)
    (hcd : (a == ("__classdict__" : Str)) = false := by decide) :
    IE X T W (.Call (.Name x p) [.Lambda params body scope lpos] [] pos) (aLam2 Ng (X.env.qual ++ "<lambda>") rd ab) := ⟨⟨fun pins s σ H Q I h => by
  obtain ⟨es, S, E, R, er, sr, xr, h, kq⟩ := h
  refine wpAny_Call_Name_kw (ld_glob I hg hm ?_ hdb)
  refine PySem.W.callWith_K (h₀ := X.base) I.ok.mod.kin hk ?_ (by rfl) (by rfl)
  show wpAny _ _ (spliced ((false, eval (.Lambda params body scope lpos) X.env) :: backTo pos (starEach [] X.env))) _ _ s
  refine Calls.spliced_cons (LamX.lam_make2 I TB hcode hmT hu sr.tabs hdef (L.has I.ok) fun f c' pm' ctv H1 s' I1 eN T1 hf hfn hfr hco => ?_)
  refine Calls.spliced_nil ⟨I1.kIn, ?_⟩
  have tx : TupX X.K H H1 := fun p ys q => eN p _ q (by simp)
  have s1 : SRep X.K T S H1 := ⟨fun a c q => by
    have cr := sr.cell a c q
    obtain ⟨o, ho, _, _, h3⟩ := cr.there
    exact cr.stay tx (by rw [ho]; exact eN a o ho h3) fun b q e => eN b _ e (by simp [LamX.CodeO]), T1⟩
  have cq : ∀ c, S c' = some c → ∃ q e s, c = .clo q e s := fun c hS => by
    have cr := s1.cell c' c hS
    cases c with
    | clo q e s => exact ⟨q, e, s, rfl⟩
    | lst xs => obtain ⟨_, e, _⟩ := cr; rw [hco] at e; simp [LamX.CodeO] at e
    | rd xs => obtain ⟨⟨_, _, e⟩, _⟩ := cr; rw [hco] at e; simp [LamX.CodeO] at e
    | ft xs => obtain ⟨_, _, e, _⟩ := cr; rw [hco] at e; simp [LamX.CodeO] at e
    | dk xs => obtain ⟨_, e, _⟩ := cr; rw [hco] at e; simp [LamX.CodeO] at e
    | dt xs => obtain ⟨_, e, _⟩ := cr; rw [hco] at e; simp [LamX.CodeO] at e
    | ins _ _ _ => obtain ⟨_, e, _⟩ := cr; rw [hco] at e; simp [LamX.CodeO] at e
    | xd _ => obtain ⟨_, e, _⟩ := cr; rw [hco] at e; simp [LamX.CodeO] at e
    | nfn _ => exact absurd (hco.symm.trans cr.1) (code_ne_fn I1.hok hco)
  have s2 : SRep X.K T (ups S c' (.clo (X.env.qual ++ "<lambda>") es σ)) H1 := s1.over ⟨hco, er.ext tx⟩
  refine wpAny_call (codeAny_mono (R := CR C8.CX0 X.stack X.prog X.w H1 s' Q C8.E0) ?rc fun r s2 hq => ?fin)
  case rc =>
    show codeAny _ _ (.call (.ref g) ⟨[.ref f], []⟩) _ _
    refine LamX.run_ofS (N := Ng) (ps := [a]) (us := [.ref f]) (vs := [.ref f]) lk hcg Sg hr.r I1.env0 (hb s' [.ref f] I1.kIn rfl) (.cons rfl .nil) rfl fun _ => ?_
    have hIS := hG (aAct f c' (X.env.qual ++ "<lambda>") σ ab) s' H1 fun W pn xe p1 p2 tk =>
      ie_act I1 L hf hfn hfr hbind tk (hr.deeper _) (fun A outer s H E hr2 => hbody A outer s H E f c' hr2) hNg hva hd hcd
    refine ⟨_, hIS.r.nox, astart Ng [.ref f], _, _, erep_start Ng (.cons (.ref f) .nil), s2, h f c' σ cq, ?_⟩
    have bk : ∀ {S' : Store} {H' : Hp}, TupX X.K H1 H' → SRep X.K T S' H' → (∃ e s, S' c' = some (.clo (X.env.qual ++ "<lambda>") e s)) → SRep X.K T (backS S c' S') H' := fun {S' H'} t sr' hf' => ⟨fun a c e => by
      unfold backS at e
      by_cases z : a = c'
      · rw [if_pos z] at e
        subst z
        obtain ⟨q2, e2, s2, rfl⟩ := cq c e
        obtain ⟨h1, h2⟩ := s1.cell _ _ e
        obtain ⟨e3, s3, h3⟩ := hf'
        obtain ⟨h4, _⟩ := sr'.cell _ _ h3
        exact ⟨(h4.trans hco.symm).trans h1, h2.ext t⟩
      · rw [if_neg z] at e
        exact sr'.cell a c e, sr'.tabs⟩
    exact { nx := fun _ S' hq σ' H' t _ s => kq _ _ hq.2 _ _ (tx.trans t) (bk t s hq.1) .non, rt := fun v S' hq H' v' t s r => kq _ _ hq.2 _ _ (tx.trans t) (bk t s hq.1) r, bk := fun _ _ h => h.elim, ct := fun _ _ h => h.elim, ex := fun _ _ _ h => h.elim }
  case fin =>
    cases r with
    | error e => exact (show False from hq).elim
    | ok fl =>
      cases fl with
      | ret u => exact I1.after hq
      | next => exact False.elim hq
      | brk => exact False.elim hq
      | cont => exact False.elim hq⟩⟩
end
end A3

set_option Elab.async false
set_option linter.all false
set_option maxRecDepth 100000
set_option maxHeartbeats 4000000
namespace A3
open PySem PySem.Spec PyProof.Rows L2

/-! ### defs by names -/
/-- the def of a statement of the top, as it stands behind the top -/
structure DefA (K : PySem.W.Frag) (mg : Str → Option Value) (x : Str) (st : Stmt) : Prop where
  ex : ∃ (oc : Value) (od : Option Addr) (kV doc pm : Value) (an : Option Addr) (ct : Value) (osl : Array (Option Value)),
    K.lookup (He.ga K x) = some ⟨oc, od, .func (PySem.W.fnOf x x (defArgs st) (defBody st) (defScope st) .none kV doc pm an (.ref (He.codeOf K (x, none))) ct), osl⟩ ∧ PySem.W.codeIn K (.ref (He.codeOf K (x, none))) x = true
  gm : mg x = some (.ref (He.ga K x))
  kp : PySem.W.keepIn K (.ref (He.ga K x)) = true
/-- a def that may be called by its name, and its promise -/
structure CalA (P : Program) (w : World) (K : PySem.W.Frag) (mg : Str → Option Value) (base : Heap) (T : Tb) (k : Nat) (x : Str) (asp : ASp) : Prop where
  ex : ∃ (f : Addr) (fd : FuncData) (ps : List Str), FnOk P w K mg base (L2.CX P w) k f fd ps (lowSp K T asp) ∧ mg x = some (.ref f) ∧ PySem.W.keepIn K (.ref f) = true ∧ Binds K fd ps []
theorem CalA.mono {P : Program} {w : World} {K : PySem.W.Frag} {mg : Str → Option Value} {base : Heap} {T : Tb} {j k : Nat} {x : Str} {asp : ASp} (c : CalA P w K mg base T j x asp) (h : j ≤ k) : CalA P w K mg base T k x asp := by
  obtain ⟨f, fd, ps, F, r⟩ := c.ex
  exact ⟨f, fd, ps, F.mono h, r⟩
theorem CalA.imp {P : Program} {w : World} {K : PySem.W.Frag} {mg : Str → Option Value} {base : Heap} {T : Tb} {k : Nat} {x : Str} {asp asp' : ASp} (c : CalA P w K mg base T k x asp) (h : ∀ va S R RE, asp' va S R RE → asp va S R RE) : CalA P w K mg base T k x asp' := by
  obtain ⟨f, fd, ps, F, r⟩ := c.ex
  refine ⟨f, fd, ps, F.imp fun vs H Q E q => ?_, r⟩
  obtain ⟨va, S, R, RE, a, b, c, d⟩ := q
  exact ⟨va, S, R, RE, a, b, h _ _ _ _ c, d⟩
section
variable {X : Cx} {T : Tb} {W : WX} {k : Nat} {x : Str} {asp : ASp} {p pos : Pos} {e : Expr} {es : List Expr} {t : AA}
theorem ie_callA (c : CalA X.prog X.w X.K X.mg X.base T k x asp) (hr : Room k X.A) (hg : Gl X x) (tk : Takes X W)
    (ha : IA X T W (e :: es) t) (hdb : (x == ("__debug__" : Str)) = false := by decide) (he : starEach (e :: es) X.env = (false, eval e X.env) :: starEach es X.env := by rfl) (hpl : (backTo pos (starEach es X.env)).any (·.1) = false := by rfl) :
    IE X T W (.Call (.Name x p) (e :: es) [] pos) (aCall asp t) := by
  obtain ⟨f, fd, ps, F, gm, kp, hb⟩ := c.ex
  exact ie_call F hr hg gm kp hb tk ha hdb he hpl
end
section
variable {P : Program} {w : World} {K : PySem.W.Frag} {mg : Str → Option Value} {base : Heap} {T : Tb} {x : Str} {st : Stmt}
theorem DefA.binds (D : DefA K mg x st) {ps : List Str}
    (h : ∀ (kV doc pm : Value) (an : Option Addr) (cdv ct : Value) (us : List Value), us.length = ps.length → bindArgs (PySem.W.fnOf x x (defArgs st) (defBody st) (defScope st) .none kV doc pm an cdv ct) ⟨us, []⟩ = pure (ps.zip us)) :
    ∀ {oc od kV doc pm an ct osl}, K.lookup (He.ga K x) = some ⟨oc, od, .func (PySem.W.fnOf x x (defArgs st) (defBody st) (defScope st) .none kV doc pm an (.ref (He.codeOf K (x, none))) ct), osl⟩ →
      Binds K (PySem.W.fnOf x x (defArgs st) (defBody st) (defScope st) .none kV doc pm an (.ref (He.codeOf K (x, none))) ct) ps [] := fun {oc od kV doc pm an ct osl} _ => .all (h kV doc pm an _ ct)
/-- THE RULE for a def of the top: k, the room of its body; a, its body's reading -/
theorem cal_of {N ps : List Str} {k : Nat} {asp : ASp} {a : AS} (D : DefA K mg x st) (S : FnScope N ps (defScope st))
    (hbd : ∀ (kV doc pm : Value) (an : Option Addr) (cdv ct : Value) (us : List Value), us.length = ps.length → bindArgs (PySem.W.fnOf x x (defArgs st) (defBody st) (defScope st) .none kV doc pm an cdv ct) ⟨us, []⟩ = pure (ps.zip us))
    (len : ∀ va S R RE, asp va S R RE → va.length = ps.length)
    (pure : ∀ va S R RE, asp va S R RE → a { nx := fun _ S' => R .non S', rt := R, ex := fun x _ S' => RE x S' } (astart N va) S)
    (hbody : ∀ (A : Around) (outer : List Env) (s : Shared) (H : Hp) (E : XK), Room k (A.deeper (envOfC x (defScope st) s.heap.objs.size (He.ga K x) (.ref (He.codeOf K (x, none))))) →
      ISs (cxOf (L2.CX P w) P w K mg base N x (defScope st) (He.ga K x) (.ref (He.codeOf K (x, none))) A outer s H E) T (fun cls d _ H => E cls d H) (defBody st) a) : CalA P w K mg base T (k + 1) x asp := by
  obtain ⟨oc, od, kV, doc, pm, an, ct, osl, lk, hcd⟩ := D.ex
  refine ⟨_, _, ps, fn_ofG lk hcd S (fun vs H Q E h => ?_) (fun A outer s H vs Q E hr h => ?_), D.gm, D.kp, D.binds hbd lk⟩
  · obtain ⟨va, S, R, RE, r, _, h, _⟩ := h
    rw [← r.length]
    exact len va S R RE h
  · obtain ⟨va, S, R, RE, r, sr, h, kq, kx⟩ := h
    exact ⟨_, (hbody A outer s H E hr).r, astart N va, S, _, erep_start N r, sr, pure va S R RE h,
      { nx := fun _ S' hq σ' H' t _ s => kq _ _ hq _ _ t s .non, rt := fun v S' hq H' v' t s r => kq _ _ hq _ _ t s r, bk := fun _ _ h => h.elim, ct := fun _ _ h => h.elim, ex := fun x _ S' hx _ H' d t _ s q => kx x S' hx H' d t s q }⟩
/-- from the head's facts -/
theorem DefA.of_says {fa : List He.Fa} {fn : List He.DefD} {h : Heap} {d : He.DefD} (X : K.In h) (G : h.Ns mainGlobals mg) (c : He.SaysD fa fn K) (i j : Nat) (hd : fn[i]? = some d) (hx : d = ⟨(x, none), x, x, defArgs st, defBody st, defScope st, [], []⟩) (hg : fa[j]? = some (.glo x)) : DefA K mg x st := by
  obtain ⟨fd, F⟩ := c.def_ i hd
  subst hx
  obtain ⟨oc, od, dV, kV, doc, pm, an, cdv, ct, osl, efd, lk, hcd, hdv, _⟩ := F.ex
  have hdv' : dV = .none := by
    rcases hdv with ⟨_, e⟩ | ⟨e, _⟩
    · exact e
    · exact absurd rfl e
  subst hdv' efd
  obtain ⟨c', e⟩ := He.codeIn_ref hcd
  subst e
  have e2 := He.codeOf_eq (p := (x, none)) lk rfl
  refine ⟨⟨oc, od, kV, doc, pm, an, ct, osl, ?_, ?_⟩, He.glo_ok X G (c.fact j hg), F.kp⟩
  · rw [e2]; exact lk
  · rw [e2]; exact hcd
end
/-- an error's class -/
structure ErrA (K : PySem.W.Frag) (mg : Str → Option Value) (x : Str) : Prop where
  gm : mg x = some (.ref (He.ga K x))
  ox : OexC K (He.ga K x)
  iC : ∃ fI, PySem.W.findIn K (.ref (He.ga K x)) "__init__" = some (some (.ref fI)) ∧ PySem.W.typeIn K (.ref fI) = some (.type "function")
end A3

set_option Elab.async false
set_option linter.all false
set_option maxRecDepth 100000
set_option maxHeartbeats 4000000
namespace A3
open PySem PySem.Spec PyProof.Rows L2
/-! ### classes of the top, their methods -/
def clsBody : Stmt → List Stmt
  | .ClassDef _ _ _ b _ _ _ _ _ _ _ => b
  | _ => []
def clsDef (s : Stmt) (j : Nat) : Stmt := (clsBody s).getD j (.Pass ⟨0, 0, 0, 0⟩)
/-- a function of K, told by its def's parts -/
abbrev FnMth (K : PySem.W.Frag) (nm q : Str) (st : Stmt) (f : Addr) (fd : FuncData) : Prop := FunD K nm q (defArgs st) (defBody st) (defScope st) [] [] f fd
/-- TermError.__init__'s function -/
def tiA (K : PySem.W.Frag) : Addr := He.ma K (He.ga K "TermError") "__init__"
structure TErr (P : Program) (w : World) (K : PySem.W.Frag) (mg : Str → Option Value) (base : Heap) : Prop where
  fn : ∃ fd, L2.FnOk P w K mg base (L2.CX P w) 1 (tiA K) fd ["self"] (spTE K) ∧ Binds K fd ["self"] []
  ty : PySem.W.typeIn K (.ref (tiA K)) = some (.type "function")
/-- an error whose class has no __init__ of its own -/
structure Err0 (K : PySem.W.Frag) (mg : Str → Option Value) (x : Str) : Prop where
  gm : mg x = some (.ref (He.ga K x))
  ox : OexC K (He.ga K x)
  it : PySem.W.findIn K (.ref (He.ga K x)) "__init__" = some (some (.ref (tiA K)))
  xc : ExcC K (He.ga K x)
def excB (K : PySem.W.Frag) (D : Addr) : Bool := decide (PySem.W.findIn K (.ref D) "__getattribute__" = some (some (.builtin "BaseException.__getattribute__"))) && (decide (PySem.W.findIn K (.ref D) "__getattr__" = some none) && (decide (PySem.W.subIn K (.ref D) (.type "BaseException") = some true) && (PySem.W.hasDictIn K D &&
  (decide (PySem.W.findIn K (.ref D) "__class__" = some (some (.builtin "object.__class__"))) && (decide (PySem.W.specialIn K (.builtin "object.__class__") "__get__" = some (some (.builtin "getset_descriptor.__get__"))) && (decide (PySem.W.takesIn K (.builtin "object.__class__") = some true) && decide (PySem.W.mroIn K D (.type "object") = some true)))))))
theorem excB_ok {K : PySem.W.Frag} {D : Addr} (h : excB K D = true) : ExcC K D := by
  unfold excB at h
  simp only [Bool.and_eq_true, decide_eq_true_eq] at h
  obtain ⟨h1, h2, h3, h4, h5, h6, h7, h8⟩ := h
  exact ⟨h1, h2, h3, h4, h5, h6, h7, h8⟩
/-- what of the program's classes a kernel run tells: e0, the errors without a field; q, what an except clause and isinstance answer -/
def e0B (K : PySem.W.Frag) (x : Str) : Bool := oexB K (He.ga K x) && (decide (PySem.W.findIn K (.ref (He.ga K x)) "__init__" = some (some (.ref (tiA K)))) && excB K (He.ga K x))
theorem e0B_ok {K : PySem.W.Frag} {mg : Str → Option Value} {x : Str} (h : e0B K x = true) (g : mg x = some (.ref (He.ga K x))) : Err0 K mg x := by
  unfold e0B at h
  simp only [Bool.and_eq_true, decide_eq_true_eq] at h
  exact ⟨g, oexB_ok h.1, h.2.1, excB_ok h.2.2⟩
def tyB (K : PySem.W.Frag) : Bool := decide (PySem.W.typeIn K (.ref (tiA K)) = some (.type "function")) && (match PySem.W.findCls K (.type "ValueError") (.type "type") "__init__" with
  | some (.val (.builtin n)) => decide (n = "ValueError.__init__")
  | _ => false)
theorem tyB_ok {K : PySem.W.Frag} (h : tyB K = true) : PySem.W.typeIn K (.ref (tiA K)) = some (.type "function") ∧ PySem.W.findCls K (.type "ValueError") (.type "type") "__init__" = some (.val (.builtin "ValueError.__init__")) := by
  unfold tyB at h
  rw [Bool.and_eq_true, decide_eq_true_eq] at h
  refine ⟨h.1, ?_⟩
  have h2 := h.2
  split at h2
  · rename_i n e
    rw [e, of_decide_eq_true h2]
  · cases h2
def ktB (K : PySem.W.Frag) (x : Str) (c : Value) (b : Bool) : Bool := decide (PySem.W.kitOne K (.ref (He.ga K x)) c = some b)
def exB (K : PySem.W.Frag) (x y : Str) (b : Bool) : Bool := decide (PySem.W.exmOne K (.ref (He.ga K x)) (.ref (He.ga K y)) = some b)
section
variable {X : Cx} {T : Tb} {W : WX} {x : Str} {k : Nat} {p pos rpos : Pos}
theorem is_raise_0 (te : TErr X.prog X.w X.K X.mg X.base) (e : Err0 X.K X.mg x) (hc : X.calm = true) (tk : Takes X W) (hr : Room k X.A) (hk : 2 ≤ k) (hg : Gl X x) (hdb : (x == ("__debug__" : Str)) = false := by decide) :
    IS X T W (.Raise (some (.Call (.Name x p) [] [] pos)) none rpos) (sRaise0 (He.ga X.K x)) := by
  obtain ⟨fd, F, hb⟩ := te.fn
  obtain ⟨j, rfl⟩ : ∃ j, k = j + 1 := ⟨k - 1, by omega⟩
  exact is_raise0 hc tk e.ox e.it te.ty (F.mono (by omega)) hr.r hb hg e.gm hdb
end
/-- x(lambda: body), x a def of the top -/
theorem ie_lamA {X : Cx} {T : Tb} {W : WX} {x a q : Str} {c P : Addr} {k : Nat} {st : Stmt} {Ng : List Str} {params : Arguments} {body : Expr} {scope : Scope} {ab : AE} {rd : AE → AS} {p lpos pos : Pos}
    (D : DefA X.K X.mg x st) (hg : Gl X x) (Sg : FnScope Ng [a] (defScope st)) (hNg : Ng[0]? = some a) (hva : Vis (defScope st) a)
    (hbd : ∀ (kV doc pm : Value) (an : Option Addr) (cdv ct : Value) (us : List Value), us.length = [a].length → bindArgs (PySem.W.fnOf x x (defArgs st) (defBody st) (defScope st) .none kV doc pm an cdv ct) ⟨us, []⟩ = pure ([a].zip us))
    (hG : ∀ (g : Addr) (cdv : Value), GivesA X T Ng x (defScope st) g cdv (defBody st) a rd)
    (TB : LamX.TabB X.base X.mg c P) (hcode : X.env.code = .ref c) (hq : X.env.qual ++ "<lambda>" = q) (hmT : (P, q) ∈ T) (hu : ∀ p ∈ T, p.1 = P → p.2 = q)
    (hr : Room (k + 2) X.A) (L : LamX.LamS X.env.scope scope) (hdef : defaultsOf params X.env = ([], []))
    (hbind : ∀ (q : Str) (cl : List (Str × Addr)) (pm cv ctv : Value), bindArgs (PySem.W.kla_fn "<lambda>" q params body scope cl pm cv ctv) ⟨[], []⟩ = pure [])
    (hbody : ∀ (A : Around) (outer : List Env) (s : Shared) (H : Hp) (E : XK) (f c' : Addr), Room k (A.deeper (LamX.lamEnv X scope s.heap.objs.size f c')) → IE (LamX.lamCx X A outer s H E scope f c') T (fun cls d _ H => E cls d H) body ab)
    (hdb : (x == ("__debug__" : Str)) = false := by decide)
    (hd : (a == ("__debug__" : Str)) = false := by decide)
    (hcd : (a == ("__classdict__" : Str)) = false := by decide) :
    IE X T W (.Call (.Name x p) [.Lambda params body scope lpos] [] pos) (aLam Ng q rd ab) := by
  subst hq
  obtain ⟨oc, od, kV, doc, pm, an, ct, osl, lk, hcd2⟩ := D.ex
  exact ie_lam hg D.gm D.kp lk hcd2 (D.binds hbd lk) Sg hNg hva (hG _ _) TB hcode hmT hu hr L hdef hbind hbody hdb hd hcd
theorem ie_lamA2 {X : Cx} {T : Tb} {W : WX} {x a q : Str} {c P : Addr} {k : Nat} {st : Stmt} {Ng : List Str} {params : Arguments} {body : Expr} {scope : Scope} {ab : AE} {rd : AE → AS} {p lpos pos : Pos}
    (D : DefA X.K X.mg x st) (hg : Gl X x) (Sg : FnScope Ng [a] (defScope st)) (hNg : Ng[0]? = some a) (hva : Vis (defScope st) a)
    (hbd : ∀ (kV doc pm : Value) (an : Option Addr) (cdv ct : Value) (us : List Value), us.length = [a].length → bindArgs (PySem.W.fnOf x x (defArgs st) (defBody st) (defScope st) .none kV doc pm an cdv ct) ⟨us, []⟩ = pure ([a].zip us))
    (hG : ∀ (g : Addr) (cdv : Value), GivesA X T Ng x (defScope st) g cdv (defBody st) a rd)
    (TB : LamX.TabB X.base X.mg c P) (hcode : X.env.code = .ref c) (hq : X.env.qual ++ "<lambda>" = q) (hmT : (P, q) ∈ T) (hu : ∀ p ∈ T, p.1 = P → p.2 = q)
    (hr : Room (k + 2) X.A) (L : LamX.LamS X.env.scope scope) (hdef : defaultsOf params X.env = ([], []))
    (hbind : ∀ (q : Str) (cl : List (Str × Addr)) (pm cv ctv : Value), bindArgs (PySem.W.kla_fn "<lambda>" q params body scope cl pm cv ctv) ⟨[], []⟩ = pure [])
    (hbody : ∀ (A : Around) (outer : List Env) (s : Shared) (H : Hp) (E : XK) (f c' : Addr), Room k (A.deeper (LamX.lamEnv X scope s.heap.objs.size f c')) → IE (LamX.lamCx X A outer s H E scope f c') T (fun cls d _ H => E cls d H) body ab)
    (hdb : (x == ("__debug__" : Str)) = false := by decide)
    (hd : (a == ("__debug__" : Str)) = false := by decide)
    (hcd : (a == ("__classdict__" : Str)) = false := by decide) :
    IE X T W (.Call (.Name x p) [.Lambda params body scope lpos] [] pos) (aLam2 Ng q rd ab) := by
  subst hq
  obtain ⟨oc, od, kV, doc, pm, an, ct, osl, lk, hcd2⟩ := D.ex
  exact ie_lam2 hg D.gm D.kp lk hcd2 (D.binds hbd lk) Sg hNg hva (hG _ _) TB hcode hmT hu hr L hdef hbind hbody hdb hd hcd
end A3

set_option Elab.async false
set_option linter.all false
set_option maxRecDepth 100000
set_option maxHeartbeats 4000000
namespace A3
open PySem PySem.Spec PyProof.Rows L2
/-! ### the end of a law's row -/
/-- no list stands in K -/
def noListB (K : PySem.W.Frag) : Bool := K.all fun q => match q.2 with
  | ⟨.type c, none, .seq _ _, _⟩ => !decide (c = "list")
  | _ => true
theorem noListB_ok {K : PySem.W.Frag} (h : noListB K = true) {H : Hp} {a : Addr} {xs : List V} (r : SqL K H a xs) : Rd H a (.lst xs) := by
  rcases r with r | ⟨o, its, n, lk, hc, hd, hdt, _, _⟩
  · exact r
  · have hm := He.lookup_mem lk
    have q := List.all_eq_true.mp h _ hm
    obtain ⟨oc, od, dt, sl⟩ := o
    dsimp only at hc hd hdt
    subst hc hd hdt
    simp at q
/-- the law's promise: of every script of at most n numbers it tells True -/
def lawSp (n : Nat) : ASp := fun va S R _ => ∃ (a : Addr) (ns : List Int), va = [.ref a] ∧ ns.length ≤ n ∧ (S a = some (.lst (ns.map .int)) ∨ S a = some (.rd (ns.map .int))) ∧ (∀ b, b ≠ a → S b = none) ∧ ∀ S', R (.bl true) S'
theorem lawSp_of {K : PySem.W.Frag} {T : Tb} {n : Nat} {H : Hp} {a : Addr} {ns : List Int} (nl : noListB K = true) (hl : ns.length ≤ n) (hT : ∀ p ∈ T, H p.1 = some (.tbl #[])) (r : SqL K H a (ns.map V.int)) :
    lowSp K T (lawSp n) [.ref a] H (fun v _ => v = .bl true) fun _ _ _ => False := by
  have tt : LamX.Tabs T H := fun p hp => ⟨#[], hT p hp, ⟨trivial, fun pos cv h => by simp [codeAmong] at h⟩⟩
  have go : ∀ c : Cell, (c = .lst (ns.map .int) ∨ c = .rd (ns.map .int)) → CRep K H a c → lowSp K T (lawSp n) [.ref a] H (fun v _ => v = .bl true) fun _ _ _ => False := fun c hc cr =>
    ⟨[.ref a], fun b => if b = a then some c else none, fun v _ => v = .bl true, fun _ _ => False, .cons (.ref a) .nil, ⟨fun b d q => by
      by_cases e : b = a
      · subst e
        simp at q
        subst q
        exact cr
      · simp [e] at q, tt⟩, ⟨a, ns, rfl, hl, by rcases hc with rfl | rfl <;> simp, fun b hb => by simp [hb], fun _ => rfl⟩,
      fun v S' hv H' v' _ _ rv => by
        subst hv
        cases rv
        rfl, fun _ _ h => h.elim⟩
  have r2 := noListB_ok nl r
  rcases r2 with e | ⟨o, e⟩
  · exact go (.lst (ns.map .int)) (.inl rfl) ⟨_, e, vreps_ints ns⟩
  · exact go (.rd (ns.map .int)) (.inr rfl) ⟨⟨o, _, e⟩, _, r, vreps_ints ns⟩
/-! ### the law's call -/
/-- what is known at the law's call: the script as it is, and the tables -/
def topH (cs : List (Addr × Addr)) (a : Addr) (o : Obj) (ns : List Int) : Hp := fun b => if b = a then some (.frz o (.lst (ns.map V.int))) else if b ∈ cs.map (·.2) then some (.tbl #[]) else none
theorem topH_none {cs : List (Addr × Addr)} {a b : Addr} {o : Obj} {ns : List Int} (h1 : b ≠ a) (h2 : b ∉ cs.map (·.2)) : topH cs a o ns b = none := by unfold topH; rw [if_neg h1, if_neg h2]
theorem topH_a {cs : List (Addr × Addr)} {a : Addr} {o : Obj} {ns : List Int} : topH cs a o ns a = some (.frz o (.lst (ns.map V.int))) := by unfold topH; rw [if_pos rfl]
theorem topH_t {cs : List (Addr × Addr)} {a b : Addr} {o : Obj} {ns : List Int} (h1 : b ≠ a) (h2 : b ∈ cs.map (·.2)) : topH cs a o ns b = some (.tbl #[]) := by unfold topH; rw [if_neg h1, if_pos h2]
theorem law_runs {P : Program} {w : World} {K : PySem.W.Frag} {mg mb : Str → Option Value} {Cr : CXT} {k : Nat} {fa a : Addr} {cs : List (Addr × Addr)} {fd : FuncData} {y : Str} {sp : Sp} {s : Shared} {vs : List Value} {ns : List Int}
    (KX : K.In s.heap) (gl : s.heap.Ns mainGlobals mg) (bl : s.heap.Ns builtinsNs mb) (bb : ∀ x : Str, x ≠ "__name__" → mb x = bootBuiltins x) (free : s.heap.NoLimit) (noG : s.gens = #[])
    (isT : ∀ p ∈ cs, s.heap.get? p.2 = some { cls := .none, data := .fields #[] }) (nT : ∀ p ∈ cs, K.lookup p.2 = none) (hds : ∀ p ∈ cs, PySem.W.CodeHd s.heap p.1 p.2)
    (bm : ∃ (bm : Addr) (ob : Obj), mg "__builtins__" = some (.ref bm) ∧ bm ≠ builtinsNs ∧ s.heap.get? bm = some ob ∧ ob.cls = .type "module" ∧ ob.dict = some builtinsNs ∧ ob.data = .plain)
    (at_a : s.heap.get? a = some { cls := .type "list", data := .seq vs.toArray }) (nK : K.lookup a = none) (inn : IntsAre vs ns) (few : ns.length ≤ sizeLine) (hr : A3.Room k callerA)
    (F : ∀ base : Heap, K.In base → base.Ns mainGlobals mg → (∀ p ∈ cs, LamX.TabB base mg p.1 p.2) → A3.FnOk P w K mg base Cr k fa fd [y] sp) (binds : ∀ (s : Shared) (u : Value), BindsTo s fd ⟨[u], []⟩ [(y, u)])
    (says : ∀ H : Hp, (∀ p ∈ cs, H p.2 = some (.tbl #[])) → SqL K H a (ns.map V.int) → sp [.ref a] H (fun v _ => v = .bl true) fun _ _ _ => False) (calm : ∀ H e s', Cr [] H s (fun _ _ _ => False) e s' → False) :
    codeAny (model P w) callerA (.call (.ref fa) ⟨[.ref a], []⟩) (fun r s' => r = .ok (.ret (.bool true)) ∧ OldK s.heap s'.heap ∧ s'.os = s.os ∧ AllBare s'.gens) s := by
  have tab : ∀ {b : Addr}, b ∈ cs.map (·.2) → s.heap.get? b = some { cls := .none, data := .fields #[] } := fun {b} h => by
    obtain ⟨p, hp, rfl⟩ := List.mem_map.mp h
    exact isT p hp
  have apart : a ∉ cs.map (·.2) := fun h => by
    have z := at_a.symm.trans (tab h)
    have z := congrArg Obj.cls (Option.some.inj z)
    exact nomatch z
  have mem : ∀ p ∈ cs, p.2 ∈ cs.map (·.2) := fun p hp => List.mem_map.mpr ⟨p, hp, rfl⟩
  let H : Hp := topH cs a { cls := .type "list", data := .seq vs.toArray } ns
  have at_t : ∀ p ∈ cs, H p.2 = some (.tbl #[]) := fun p hp => topH_t (fun z => apart (z ▸ mem p hp)) (mem p hp)
  -- what is no list and no table stays in sight
  have sight : ∀ {b : Addr} {o : Obj}, s.heap.get? b = some o → (∀ vs n, o.data = .seq vs n → False) → (o.data = .fields #[] → False) → (hidT s.heap H).get? b = some o := fun {b o} e h1 h2 =>
    hidT_get e (topH_none (fun z => by
      subst z
      rw [at_a] at e
      cases e
      exact h1 _ _ rfl) fun z => by
      rw [tab z] at e
      cases e
      exact h2 rfl)
  have space : ∀ {b : Addr} {m : Str → Option Value}, s.heap.Ns b m → (hidT s.heap H).Ns b m := fun {b m} ⟨o, es, ep, e, d, r⟩ => ⟨o, es, ep, sight e (fun _ _ z => by rw [d] at z; exact nomatch z) (fun z => by rw [d] at z; exact nomatch z), d, r⟩
  have KH : K.In (hidT s.heap H) := fun b o e => hidT_get (KX b o e) (topH_none (fun z => by
    subst z
    rw [nK] at e
    exact nomatch e) fun z => by
    obtain ⟨p, hp, rfl⟩ := List.mem_map.mp z
    rw [nT p hp] at e
    exact nomatch e)
  have ok : HOk P w H s.heap := fun b u e => by
    by_cases h1 : b = a
    · subst h1
      cases (topH_a (cs := cs)).symm.trans e
      exact ⟨at_a, by rw [List.length_map]; exact few, vs, _, vals_ints inn, at_a⟩
    · by_cases h2 : b ∈ cs.map (·.2)
      · cases (topH_t (a := a) h1 h2).symm.trans e
        exact tab h2
      · cases (topH_none (a := a) h1 h2).symm.trans e
  have TB : ∀ p ∈ cs, LamX.TabB (hidT s.heap H) mg p.1 p.2 := fun p hp => by
    refine ⟨?_, ?_, fun z => ?_⟩
    · obtain ⟨o, us, file, tf, flags, tg, inF, text, tt, e1, c1, d1, big, rest⟩ := hds p hp
      exact ⟨o, us, file, tf, flags, tg, inF, text, tt, sight e1 (fun _ _ z => by rw [d1] at z; exact nomatch z) (fun z => by
        rw [d1] at z
        cases z
        simp at big), c1, d1, big, rest⟩
    · obtain ⟨m, ob, b1, b2, b3, b4, b5, b6⟩ := bm
      refine ⟨m, ob, b1, b2, fun z => ?_, fun z => ?_, sight b3 (fun _ _ z => by rw [b6] at z; exact nomatch z) (fun z => by rw [b6] at z; exact nomatch z), b4, b5, b6⟩
      · obtain ⟨o, es, ep, e, d, _⟩ := gl
        rw [z, e] at b3
        cases b3
        rw [d] at b6
        exact nomatch b6
      · rw [z, isT p hp] at b3
        cases b3
        exact nomatch b6
    · obtain ⟨o, es, ep, e, d, _⟩ := gl
      rw [z, isT p hp] at e
      cases e
      exact nomatch d
  have M : L2.Mod K mg (hidT s.heap H) := ⟨KH, space gl, ⟨mb, space bl, bb⟩, by
    obtain ⟨c, h1, h2⟩ := free
    exact ⟨c, space h1, h2⟩⟩
  refine codeAny_mono ((F _ KH (space gl) TB).goes callerA [] s H ⟨[.ref a], []⟩ [.ref a] [.ref a] _ _ hr ⟨rfl, M, fun b o e => of_hidT e, Nat.le_of_eq (hidT_size _ _), trivial, (fun b z => absurd z (List.not_mem_nil)), ok, .of_eq noG⟩ (binds s (.ref a)) (.cons rfl .nil)
    (says H at_t (.inl (.inr ⟨_, topH_a⟩)))) fun r s' h => ?_
  match r, h with
  | .error e, h => exact (calm H e s' h).elim
  | .ok .next, h => exact False.elim h
  | .ok .brk, h => exact False.elim h
  | .ok .cont, h => exact False.elim h
  | .ok (.ret u), ⟨v, H', os, bare, un, ok', rv, hv⟩ =>
    have hv : v = .bl true := hv
    subst hv
    have hu : u = Value.bool true := rv
    subst hu
    have stays : ∀ {b : Addr} {o : Obj}, b ∉ cs.map (·.2) → s.heap.get? b = some o → s'.heap.get? b = some o := fun {b o} nb e => by
      by_cases h1 : b = a
      · subst h1
        obtain ⟨z, _⟩ := ok' b _ (un.frzs b _ _ (topH_a (cs := cs)))
        rw [at_a] at e
        cases e
        exact z
      · exact un.keep b o e (topH_none h1 nb) (fun z => nomatch z) (by simp)
    have grows : ∀ {b : Addr}, b ∈ cs.map (·.2) → ∃ more : Array Value, s'.heap.get? b = some { cls := .none, data := .fields more } := fun {b} hb => by
      obtain ⟨p, hp, rfl⟩ := List.mem_map.mp hb
      obtain ⟨more, z⟩ := un.tbls p.2 #[] (at_t p hp)
      exact ⟨_, ok' p.2 _ z⟩
    refine ⟨rfl, ⟨fun b o e => ?_, fun b o e => ?_⟩, os, bare⟩
    · by_cases hb : b ∈ cs.map (·.2)
      · obtain ⟨more, hm⟩ := grows hb
        obtain ⟨p, hp, rfl⟩ := List.mem_map.mp hb
        rw [isT p hp] at e
        cases e
        exact .inr (.inl ⟨((hds p hp).tab (isT p hp)).isCodeTable, rfl, #[], more, rfl, by simpa using hm⟩)
      · exact .inl (stays hb e)
    · by_cases hb : b ∈ cs.map (·.2)
      · obtain ⟨more, hm⟩ := grows hb
        exact ⟨_, hm⟩
      · exact ⟨o, stays hb e⟩
/-- what is known of the law's promise at the head's heap -/
def LawG (l : PySem.W.OpenLaw) (w : World) (K : PySem.W.Frag) (Cr : CXT) (k n : Nat) (y : Str) (mg : Str → Option Value) (fa : Addr) (h : Heap) : Prop :=
  ∃ (fd : FuncData) (cs : List (Addr × Addr)) (sp : Sp), ((∀ p ∈ cs, h.get? p.2 = some { cls := .none, data := .fields #[] }) ∧ (∀ p ∈ cs, K.lookup p.2 = none) ∧ ∀ p ∈ cs, PySem.W.CodeHd h p.1 p.2) ∧ noListB K = true ∧ (∀ (s : Shared) (u : Value), BindsTo s fd ⟨[u], []⟩ [(y, u)]) ∧
    (∀ (H : Hp) (a : Addr) (ns : List Int), ns.length ≤ n → (∀ p ∈ cs, H p.2 = some (.tbl #[])) → SqL K H a (ns.map V.int) → sp [.ref a] H (fun v _ => v = .bl true) fun _ _ _ => False) ∧
    ∀ base : Heap, K.In base → base.Ns mainGlobals mg → (∀ p ∈ cs, LamX.TabB base mg p.1 p.2) → A3.FnOk l.prog w K mg base Cr k fa fd [y] sp
theorem walk_G {l : PySem.W.OpenLaw} {n k : Nat} {q : Program} {loose : List Str} {XP : (Str → Option Value) → Heap → Prop} {YP : World → Heap → Prop} {d : DefRec} {Cr : World → CXT} {y : Str} (hn : l.most = some n) (hn2 : n ≤ sizeLine) (hdf : d.params.defaults = []) (hr : L2.Room k callerA)
    (F : ∀ (w : World) (mg : Str → Option Value) (fa : Addr) (h : Heap), YP w h → h.Ns mainGlobals mg → mg d.name = some (.ref fa) → ∃ K : PySem.W.Frag, K.In h ∧ LawG l w K (Cr w) k n y mg fa h)
    (calm : ∀ (w : World) (H : Hp) (s : Shared) (e : Value) (s' : Shared), Cr w [] H s (fun _ _ _ => False) e s' → False) : PySem.W.WalkO q loose XP YP l.row.toRowW d [] (fun f vs => PySem.call f vs) :=
  Att.attach_callB hn hdf fun w s0 s1 mg mb fa o pm cd doc a vs ns G Y ho hd hcd hmg at_a inn len bits noG => by
    obtain ⟨K, KX, fd, cs, sp, ⟨c1, c2, c3⟩, nl, hb, says, hF⟩ := F w mg fa _ Y G.T.g hmg
    have nK : K.lookup a = none := by
      cases e : K.lookup a with
      | none => rfl
      | some o =>
        have z := KX a o e
        rw [at_a] at z
        cases z
        have q := List.all_eq_true.mp nl _ (He.lookup_mem e)
        simp at q
    exact law_runs KX G.T.g G.T.b G.T.builtins G.T.nolimit noG c1 c2 c3 G.T.bmain at_a nK inn (Nat.le_trans len hn2) ⟨hr, rfl⟩ hF hb (fun H h1 h2 => says H a ns len h1 h2) fun H e s' => calm w H s1 e s'
section
variable {P : Program} {w : World} {K : PySem.W.Frag} {mg : Str → Option Value} {base : Heap} {T : Tb} {x : Str} {st : Stmt}
/-- a def's function keeps its promise -/
def FnA (P : Program) (w : World) (K : PySem.W.Frag) (mg : Str → Option Value) (base : Heap) (T : Tb) (k : Nat) (x : Str) (st : Stmt) (ps : List Str) (asp : ASp) : Prop :=
  ∀ (oc : Value) (od : Option Addr) (kV doc pm : Value) (an : Option Addr) (ct : Value) (osl : Array (Option Value)),
    K.lookup (He.ga K x) = some ⟨oc, od, .func (PySem.W.fnOf x x (defArgs st) (defBody st) (defScope st) .none kV doc pm an (.ref (He.codeOf K (x, none))) ct), osl⟩ → PySem.W.codeIn K (.ref (He.codeOf K (x, none))) x = true →
    FnOk P w K mg base (L2.CX P w) k (He.ga K x) (PySem.W.fnOf x x (defArgs st) (defBody st) (defScope st) .none kV doc pm an (.ref (He.codeOf K (x, none))) ct) ps (lowSp K T asp)
theorem fnA_of {N ps : List Str} {k : Nat} {asp : ASp} {a : AS} (S : FnScope N ps (defScope st))
    (len : ∀ va S R RE, asp va S R RE → va.length = ps.length)
    (pure : ∀ va S R RE, asp va S R RE → a { nx := fun _ S' => R .non S', rt := R, ex := fun x _ S' => RE x S' } (astart N va) S)
    (hbody : ∀ (A : Around) (outer : List Env) (s : Shared) (H : Hp) (E : XK), Room k (A.deeper (envOfC x (defScope st) s.heap.objs.size (He.ga K x) (.ref (He.codeOf K (x, none))))) →
      ISs (cxOf (L2.CX P w) P w K mg base N x (defScope st) (He.ga K x) (.ref (He.codeOf K (x, none))) A outer s H E) T (fun cls d _ H => E cls d H) (defBody st) a) : FnA P w K mg base T (k + 1) x st ps asp := by
  intro oc od kV doc pm an ct osl lk hcd
  refine fn_ofG lk hcd S (fun vs H Q E h => ?_) (fun A outer s H vs Q E hr h => ?_)
  · obtain ⟨va, S, R, RE, r, _, h, _⟩ := h
    rw [← r.length]
    exact len va S R RE h
  · obtain ⟨va, S, R, RE, r, sr, h, kq, kx⟩ := h
    exact ⟨_, (hbody A outer s H E hr).r, astart N va, S, _, erep_start N r, sr, pure va S R RE h,
      { nx := fun _ S' hq σ' H' t _ s => kq _ _ hq _ _ t s .non, rt := fun v S' hq H' v' t s r => kq _ _ hq _ _ t s r, bk := fun _ _ h => h.elim, ct := fun _ _ h => h.elim, ex := fun x _ S' hx _ H' d t _ s q => kx x S' hx H' d t s q }⟩
theorem law_at {l : PySem.W.OpenLaw} {n k : Nat} {cs : List (Addr × Addr)} {y : Str} {h : Heap} {fa : Addr} (D : DefA K mg "law" st) (hfa : mg "law" = some (.ref fa)) (nl : noListB K = true)
    (hT : ∀ p ∈ T, ∃ q ∈ cs, q.2 = p.1) (h1 : ∀ p ∈ cs, h.get? p.2 = some { cls := .none, data := .fields #[] }) (h2 : ∀ p ∈ cs, K.lookup p.2 = none) (h3 : ∀ p ∈ cs, PySem.W.CodeHd h p.1 p.2)
    (hbd : ∀ (kV doc pm : Value) (an : Option Addr) (cdv ct : Value) (us : List Value), us.length = [y].length → bindArgs (PySem.W.fnOf "law" "law" (defArgs st) (defBody st) (defScope st) .none kV doc pm an cdv ct) ⟨us, []⟩ = pure ([y].zip us))
    (F : ∀ base : Heap, K.In base → base.Ns mainGlobals mg → (∀ p ∈ cs, LamX.TabB base mg p.1 p.2) → FnA l.prog w K mg base T k "law" st [y] (lawSp n)) : LawG l w K (L2.CX l.prog w) k n y mg fa h := by
  obtain ⟨oc, od, kV, doc, pm, an, ct, osl, lk, hcd⟩ := D.ex
  have e := D.gm.symm.trans hfa
  cases e
  refine ⟨_, cs, lowSp K T (lawSp n), ⟨h1, h2, h3⟩, nl, fun s u => .of_eq (hbd kV doc pm an _ ct [u] rfl), fun H a ns hl hc r => lawSp_of nl hl (fun p hp => ?_) r, fun base KX G TB => F base KX G TB _ _ _ _ _ _ _ _ lk hcd⟩
  obtain ⟨q, hq, e⟩ := hT p hp
  rw [← e]
  exact hc q hq
end
theorem noCX {P : Program} {w : World} {H : Hp} {s : Shared} {e : Value} {s' : Shared} (h : L2.CX P w [] H s (fun _ _ _ => False) e s') : False := by
  obtain ⟨_, _, _, _, _, _, _, _, _, _, _, _, z⟩ := h
  exact z
end A3

set_option Elab.async false
set_option linter.all false
set_option maxRecDepth 100000
set_option maxHeartbeats 4000000
namespace A3
open PySem PySem.Spec PyProof.Rows L2
/-! ### enumerate of a tuple -/
theorem meets_enum_newT (l : Addr) (items : Array Value) (n : Nat) (dct : Option Addr) (sl : Array (Option Value)) :
    Meets (Builtin.«enumerate.__new__» ⟨[.type "enumerate", .ref l], []⟩) (fun _ R s => s.heap.get? l = some { cls := .type "tuple", dict := dct, data := .seq items n, slots := sl } ∧
      R (.ok (.ret (.ref (s.heap.push { cls := .type "tuple_iterator", data := .fields #[.ref l, .int 0 0] }).objs.size)))
        { s with heap := (s.heap.push { cls := .type "tuple_iterator", data := .fields #[.ref l, .int 0 0] }).push { cls := .type "enumerate", data := .fields #[.none, .bool false, .ref s.heap.objs.size, rawInt 0, .none, .none] } }) :=
  .of_wp fun prog w A R s h => by
    obtain ⟨hp, g, d, tk, os⟩ := s
    obtain ⟨hl, h⟩ := h
    have hsub := sub_enumerate
    have hT : Heap.IsTuple (Shared.heap ⟨hp, g, d, tk, os⟩) l items := ⟨_, hl, rfl, n, rfl⟩
    wp_walk using AutoSeq1.wpAny_loadPart' hl
    refine wpAny_stack_any fun st => wpAny_pure ?_
    split
    · rename_i c _ _ _ _ _
      cases (c == Value.type "enumerate")
      · wp_walk using AutoSeq1.wpAny_loadPart' hl, wpAny_pyIter_tuple hT
        exact ⟨_, rfl, h⟩
      · wp_walk using AutoSeq1.wpAny_loadPart' hl, wpAny_pyIter_tuple hT
        exact ⟨_, rfl, h⟩
    · wp_walk using AutoSeq1.wpAny_loadPart' hl, wpAny_pyIter_tuple hT
      exact ⟨_, rfl, h⟩
theorem call_enum_tuple {prog : Program} {w : World} {A : Around} {E : Value → Shared → Prop} {s : Shared} {l : Addr} {items : Array Value} {Q : Value → Shared → Prop} (hL : s.heap.IsTuple l items)
    (h : ∀ h', IsEnum h' (s.heap.objs.size + 1) s.heap.objs.size 0 .none → h'.IsTupleIter s.heap.objs.size l 0 → h'.objs.size = s.heap.objs.size + 2 →
      (∀ b o, s.heap.get? b = some o → h'.get? b = some o) → Q (.ref (s.heap.objs.size + 1)) { s with heap := h' }) :
    wpAny (model prog w) A (call (.type "enumerate") [.ref l]) Q E s := by
  obtain ⟨⟨c, dct, dt, sl⟩, hl, hc, n, hd⟩ := hL
  replace hc : c = .type "tuple" := hc
  replace hd : dt = .seq items n := hd
  subst hc hd
  refine callType_new F.called_enumerate (by decide) (F.typeCall_enumerate_1 _) (F.newCall_enumerate_1 _) (fun obj => F.args_object_init_2 obj _) F.entry_enumerate_new
    (meets_enum_newT l items n dct sl) ⟨hl, ?_⟩
  have hz : (s.heap.push { cls := .type "tuple_iterator", data := .fields #[.ref l, .int 0 0] }).objs.size = s.heap.objs.size + 1 := Heap.size_push ..
  show _ ∧ _
  rw [hz]
  have he : IsEnum ((s.heap.push { cls := .type "tuple_iterator", data := .fields #[.ref l, .int 0 0] }).push
      { cls := .type "enumerate", data := .fields #[.none, .bool false, .ref s.heap.objs.size, rawInt 0, .none, .none] }) (s.heap.objs.size + 1) s.heap.objs.size 0 .none := by
    have := Heap.get?_push_size (s.heap.push { cls := .type "tuple_iterator", data := .fields #[.ref l, .int 0 0] })
      (o := { cls := .type "enumerate", data := .fields #[.none, .bool false, .ref s.heap.objs.size, rawInt 0, .none, .none] }) rfl
    rw [hz] at this; exact this
  exact ⟨⟨_, he, rfl⟩, h _ he ⟨_, Heap.get?_push_of_some _ (Heap.get?_push_size _ rfl), rfl, rfl⟩ (by rw [Heap.size_push, hz]) fun b o x => Heap.get?_push_of_some _ (Heap.get?_push_of_some _ x)⟩
theorem enumT_end {prog : Program} {w : World} {A : Around} {E : Value → Shared → Prop} {s : Shared} {e it a : Addr} {items : Array Value} {n : Nat} {i : Int} {old : Value} {Q : Option Value → Shared → Prop}
    (hh : A.handled = none) (he : IsEnum s.heap e it i old) (hit : s.heap.IsTupleIter it a n) (ht : s.heap.IsTuple a items) (hx : items[n]? = none)
    (hQ : ∀ h', Heap.ExtBut it s.heap h' → Q none { s with heap := h' }) : wpAny (model prog w) A (pyNext (.ref e)) Q E s := by
  have hT : s.TypeIs (.ref e) "enumerate" := ⟨_, he, rfl⟩
  unfold pyNext
  refine wpAny_bind (wpAny_attempt (wpAny_callSpecial?_slot (name := Str.ofString "__next__") hT F.slot_enumerate_next
    (wpAny_call_entry F.slot_enumerate_next hT F.entry_enumerate_next ?_ (F.args_enumerate_next_1 _))))
  show wpAny _ _ (field (.ref e) 2 >>= _) _ _ _
  refine wpAny_bind (wpAny_field he rfl (x := .ref it) rfl ?_)
  refine wpAny_bind (wpAny_nextOf_tuple_end (A := A.in1) hh hit ht hx fun h' x he' hx' => ?_)
  obtain ⟨o, ho, hc⟩ := hx'
  refine wpAny_bind (wpAny_isInstance (T := "StopIteration") (b := true) ⟨o, ho, hc⟩ isSubtype_stop ?_)
  exact wpAny_pure (hQ _ he')
/-- the tuple at a, each item in a new pair -/
def IteT (K : PySem.W.Frag) (a : Addr) : It :=
  ⟨fun i H => ∃ (xs : List V) (x : V), SqT K H a xs ∧ xs[i]? = some x, fun i H v H' => ∃ T x, v = .ref T ∧ H T = none ∧ H' = upd H T (.tup [.int (i : Nat), x]) ∧ ∀ xs, SqT K H a xs → xs[i]? = some x, fun i H => ∃ xs : List V, SqT K H a xs ∧ xs.length ≤ i⟩
theorem turn_enumT {P : Program} {w : World} {K : PySem.W.Frag} {elts : List Expr} {kk : Nat} {tpos : Pos} (a e it : Addr) :
    Turn P w K (.Tuple elts kk tpos) (IteT K a) [e, it] e (fun i h => (∃ old, IsEnum h e it ((i : Nat) : Int) old) ∧ h.IsTupleIter it a i ∧ e ≠ it) where
  mem := by simp
  obj := fun i h st b hb => by
    obtain ⟨⟨old, he⟩, ⟨o, ho, hc, hd⟩, _⟩ := st
    have e' : b = e ∨ b = it := by simpa using hb
    rcases e' with z | z
    · rw [z]; exact ⟨_, he, fun v q => nomatch q⟩
    · rw [z]; exact ⟨o, ho, fun v q => by rw [hd] at q; cases q⟩
  keep := fun i h h' st k => let ⟨⟨old, he⟩, hi, hne⟩ := st; ⟨⟨old, k e (by simp) _ he⟩, hi.at fun o q => k it (by simp) o q, hne⟩
  item := by
    intro X hP hw hK hc i pins s σ H E I hf st hg
    subst hP hw hK
    obtain ⟨⟨old, he⟩, hit, hne⟩ := st
    obtain ⟨xs, x, hq, hx⟩ := hg
    obtain ⟨its, rv, p, hz⟩ := I.tuple hq
    obtain ⟨u, hu, ru⟩ := rv.get hx
    have hT0 : s.heap.IsTuple a its.toArray := p
    have hel : e < s.heap.objs.size := Heap.lt_size he
    have hil : it < s.heap.objs.size := by obtain ⟨_, q, _⟩ := hit; exact Heap.lt_size q
    have hae : a ≠ e := fun z => by
      obtain ⟨o, ho, hcl, _⟩ := hT0
      rw [z, he] at ho
      cases ho
      exact absurd (Value.type.inj hcl) (by decide)
    have hai : a ≠ it := fun z => by
      obtain ⟨o, ho, hcl, _⟩ := hT0
      obtain ⟨o', ho', hcl', _⟩ := hit
      rw [z, ho'] at ho
      cases ho
      rw [hcl'] at hcl
      exact absurd (Value.type.inj hcl) (by decide)
    have hlt : i < its.toArray.size := by
      have := (List.getElem?_eq_some_iff.mp hu).1
      simpa using this
    refine wpAny_pyNext_enum_itemD (Draws.tuple (A := X.A.in1) (I.ok.hd hc) it a hai its.toArray) he ⟨hit, hT0⟩ hlt hne (by simp [hne, Ne.symm hae]) fun u' h' tk hu' ho hit' hT hsz hk => ?_
    have hu2 : u' = u := by
      have hu3 : its[i]? = some u' := by simpa using hu'
      rw [hu] at hu3
      exact (Option.some.inj hu3).symm
    subst hu2
    refine ⟨_, rfl, wpAny_letOwnedTupleGo_enum (s := { s with heap := h', toks := tk + 1 }) ho fun h'' he' sb => ?_⟩
    have hT2 : h''.get? s.heap.objs.size = some { cls := .type "tuple", data := .seq #[.int i tk, u'] } := (sb.2 _ (Nat.ne_of_gt hel)).trans hT
    have new : ObjOk X.prog X.w (upd H s.heap.objs.size (.tup [.int (i : Nat), x])) h'' s.heap.objs.size (.tup [.int (i : Nat), x]) :=
      ⟨by show 2 ≤ sizeLine; decide, [.int i tk, u'], .cons ⟨_, rfl⟩ (.cons ru .nil), ⟨_, hT2, rfl, _, rfl⟩⟩
    have I1 : Inv X pins σ (upd H s.heap.objs.size (.tup [.int (i : Nat), x])) { s with heap := h'', toks := tk + 1 } :=
      I.turnedNew (ch := [e, it]) (fun b ob hb q => (sb.2 b (fun z => hb (by simp [z]))).trans (hk b ob (fun z => hb (by simp [z])) (fun z => hb (by simp [z])) q)) hf (Nat.le_refl _) new
    refine ⟨.ref s.heap.objs.size, _, I1, rfl, ⟨_, x, rfl, I.hok.fresh (Nat.le_refl _), rfl, fun ys hy => by rw [I.tuple_inj hy hq]; exact hx⟩, ⟨⟨u', ?_⟩, hit'.1.at fun o q => (sb.2 it (Ne.symm hne)).trans q, hne⟩, fun b hb => ?_⟩
    · have e1 : ((i + 1 : Nat) : Int) = (i : Int) + 1 := by omega
      rw [e1]; exact he'
    · have hb' : b < s.heap.objs.size := by
        have e' : b = e ∨ b = it := by simpa using hb
        rcases e' with z | z
        · rw [z]; exact hel
        · rw [z]; exact hil
      rw [upd_ne (Nat.ne_of_lt hb')]
      exact (hf b hb).1
  done := by
    intro X hP hw hK hc i pins s σ H E I hf st hg
    subst hP hw hK
    obtain ⟨⟨old, he⟩, hit, hne⟩ := st
    obtain ⟨xs, hq, hx⟩ := hg
    obtain ⟨its, rv, p, hz⟩ := I.tuple hq
    have hT0 : s.heap.IsTuple a its.toArray := p
    have hai : a ≠ it := fun z => by
      obtain ⟨o, ho, hcl, _⟩ := hT0
      obtain ⟨o', ho', hcl', _⟩ := hit
      rw [z, ho'] at ho
      cases ho
      rw [hcl'] at hcl
      exact absurd (Value.type.inj hcl) (by decide)
    obtain ⟨f0, f1, f2, f3, f4, f5⟩ := hf it (by simp)
    have hl := rv.length
    exact enumT_end (I.ok.hd hc) he hit hT0 (by simp; omega) fun h' eb => ⟨rfl, I.turned (t' := s.toks) (fun b o hb q => eb b o hb q) f0 f1 f3 f4 f5⟩
  self := fun A i s Q E st h => let ⟨⟨_, he⟩, _⟩ := st; wpAny_pyIter_enum he h
/-- enumerate of a list or of a tuple -/
def iEn (K : PySem.W.Frag) (ta : TA) : TI := fun σ H R => ta σ H fun vs H1 => (∃ a xs, vs = [.ref a] ∧ SqL K H1 a xs ∧ R (Ite K a) H1) ∨ ∃ a xs, vs = [.ref a] ∧ SqT K H1 a xs ∧ R (IteT K a) H1
theorem pi_en {X : Cx} {e : Expr} {ta : TA} {p pos tpos : Pos} {elts : List Expr} {kk : Nat} (hg : Gl X "enumerate") (hm : X.mg "enumerate" = none) (ha : PA X [e] ta) (hs : starEach [e] X.env = [(false, eval e X.env)] := by rfl) :
    PI X (.Tuple elts kk tpos) (.Call (.Name "enumerate" p) [e] [] pos) (iEn X.K ta) := by
  refine ⟨fun pins s σ H R I h => ?_⟩
  refine Call_ (ld_blt I hg hm boot_enumerate (PyProof.Rows.callWith_type1 (thn (ha.run pos pins s σ H _ I h) fun us s1 ⟨vs, H1, I1, r1, q1⟩ => ?_) hs rfl))
  rcases q1 with ⟨a, xs, ex, hq, q⟩ | ⟨a, xs, ex, hq, q⟩
  · subst ex
    cases r1 with
    | cons r rr =>
      cases rr
      cases r
      obtain ⟨its, rv, p', hz⟩ := I1.list hq
      refine call_enumerate_list p'.isList fun h' he hit hsz hk => wpAny_pyIter_enum he ?_
      have I2 : Inv X pins σ H1 { s1 with heap := h' } := I1.kept (t' := s1.toks) hk
      refine ⟨s1.heap.objs.size + 1, [s1.heap.objs.size + 1, s1.heap.objs.size], _, _, H1, rfl, I2, turn_enum a (s1.heap.objs.size + 1) s1.heap.objs.size, ⟨⟨.none, he⟩, hit, Nat.succ_ne_self _⟩, fun b hb => ?_, q⟩
      have e' : b = s1.heap.objs.size + 1 ∨ b = s1.heap.objs.size := by simpa using hb
      have hle : s1.heap.objs.size ≤ b := by
        rcases e' with z | z
        · rw [z]; exact Nat.le_add_right _ _
        · rw [z]; exact Nat.le_refl _
      exact I1.fpOk hle (I1.hok.fresh hle)
  · subst ex
    cases r1 with
    | cons r rr =>
      cases rr
      cases r
      obtain ⟨its, rv, p', hz⟩ := I1.tuple hq
      refine call_enum_tuple (show s1.heap.IsTuple a its.toArray from p') fun h' he hit hsz hk => wpAny_pyIter_enum he ?_
      have I2 : Inv X pins σ H1 { s1 with heap := h' } := I1.kept (t' := s1.toks) hk
      refine ⟨s1.heap.objs.size + 1, [s1.heap.objs.size + 1, s1.heap.objs.size], _, _, H1, rfl, I2, turn_enumT a (s1.heap.objs.size + 1) s1.heap.objs.size, ⟨⟨.none, he⟩, hit, Nat.succ_ne_self _⟩, fun b hb => ?_, q⟩
      have e' : b = s1.heap.objs.size + 1 ∨ b = s1.heap.objs.size := by simpa using hb
      have hle : s1.heap.objs.size ≤ b := by
        rcases e' with z | z
        · rw [z]; exact Nat.le_add_right _ _
        · rw [z]; exact Nat.le_refl _
      exact I1.fpOk hle (I1.hok.fresh hle)
def enI : Nat → List Val → List Val
  | _, [] => []
  | i, x :: xs => .tup [.int i, x] :: enI (i + 1) xs
theorem enI_length (i : Nat) (xs : List Val) : (enI i xs).length = xs.length := by
  induction xs generalizing i with
  | nil => rfl
  | cons x xs ih => simp [enI, ih]
theorem enI_get (i : Nat) (xs : List Val) (j : Nat) : (enI i xs)[j]? = (xs[j]?).map fun x => .tup [.int ((i + j : Nat) : Int), x] := by
  induction xs generalizing i j with
  | nil => simp [enI]
  | cons x xs ih =>
    cases j with
    | zero => simp [enI]
    | succ j =>
      simp only [enI, List.getElem?_cons_succ]
      rw [ih, show i + 1 + j = i + (j + 1) by omega]
def iEnumA (a : AE) : AI := fun E es S R => a E es S fun v S1 => match v with
  | .tup xs => R ⟨enI 0 xs, fun _ => True⟩ S1
  | .ref p => ∃ xs, (S1 p = some (.lst xs) ∨ S1 p = some (.rd xs)) ∧ R ⟨enI 0 xs, fun S => S p = some (.lst xs) ∨ S p = some (.rd xs)⟩ S1
  | _ => False
section
variable {X : Cx} {T : Tb} {W : WX} {p pos tpos : Pos} {elts : List Expr} {kk : Nat}
theorem yld_pair {K : PySem.W.Frag} {S : Store} {H : Hp} {n : Addr} {i : Nat} {x : Val} {y : V} (hn : H n = none) (sr : SRep K T S H) (r : VRep K H x y) :
    VRep K (upd H n (.tup [.int (i : Nat), y])) (.tup [.int (i : Nat), x]) (.ref n) ∧ TupX K H (upd H n (.tup [.int (i : Nat), y])) ∧ SRep K T S (upd H n (.tup [.int (i : Nat), y])) := by
  have t2 : TupX K H (upd H n (.tup [.int (i : Nat), y])) := .upd (noTup_none hn)
  exact ⟨.tup upd_same (.cons (.int _) (.cons (r.ext t2) .nil)), t2, sr.laid hn⟩
theorem ii_enum {e : Expr} {aa : AE} (hg : Gl X "enumerate") (hm : X.mg "enumerate" = none) (h : IE X T W e aa) (hs : starEach [e] X.env = [(false, eval e X.env)] := by rfl) :
    II X T W (.Tuple elts kk tpos) (.Call (.Name "enumerate" p) [e] [] pos) (iEnumA aa) := ⟨pi_mono (pi_en hg hm (pa_cons h.r pa_nil hs) hs) fun σ H R h => by
  obtain ⟨es, S, E, RR, er, sr, xr, h, k⟩ := h
  refine ⟨es, S, E, _, er, sr, xr, h, fun v S1 h1 H1 v' t1 s1 r1 => ?_⟩
  cases r1 with
  | @tup p xs ys sq r =>
    refine .inr ⟨p, ys, rfl, .of sq, k _ _ h1 _ _ t1 s1 ⟨fun i S H tt ok sr hi => ?_, fun i S H x' H' tt ok sr hy x hx => ?_, fun i S H tt ok sr hi => ?_⟩⟩
    · rw [show (Seq.mk (enI 0 xs) fun _ => True).xs = enI 0 xs from rfl, enI_length] at hi
      obtain ⟨z, hz⟩ := lt_some (show i < ys.length from r.length ▸ hi)
      exact ⟨ys, z, .of (tt _ _ sq), hz⟩
    · obtain ⟨n, y, e, hn, eH, hy⟩ := hy
      subst e eH
      rw [show (Seq.mk (enI 0 xs) fun _ => True).xs = enI 0 xs from rfl, enI_get, Nat.zero_add] at hx
      obtain ⟨x0, hx0, ex⟩ := Option.map_eq_some_iff.mp hx
      subst ex
      obtain ⟨y', e1, r1⟩ := (r.ext tt).get hx0
      have e2 := hy ys (.of (tt _ _ sq))
      rw [e1] at e2
      cases e2
      exact yld_pair hn sr r1
    · rw [show (Seq.mk (enI 0 xs) fun _ => True).xs = enI 0 xs from rfl, enI_length] at hi
      exact ⟨ys, .of (tt _ _ sq), r.length ▸ hi⟩
  | ref a =>
    obtain ⟨xs, hs, hR⟩ := h1
    obtain ⟨ys, sq, r⟩ := CRep.sql s1 hs
    refine .inl ⟨a, ys, rfl, sq, k _ _ hR _ _ t1 s1 ⟨fun i S H tt ok sr hi => ?_, fun i S H x' H' tt ok sr hy x hx => ?_, fun i S H tt ok sr hi => ?_⟩⟩
    · obtain ⟨zs, sq', r'⟩ := CRep.sql sr ok
      rw [show (Seq.mk (enI 0 xs) _).xs = enI 0 xs from rfl, enI_length] at hi
      obtain ⟨z, hz⟩ := lt_some (show i < zs.length from r'.length ▸ hi)
      exact ⟨zs, z, sq', hz⟩
    · obtain ⟨zs, sq', r'⟩ := CRep.sql sr ok
      obtain ⟨n, y, e, hn, eH, hy⟩ := hy
      subst e eH
      rw [show (Seq.mk (enI 0 xs) _).xs = enI 0 xs from rfl, enI_get, Nat.zero_add] at hx
      obtain ⟨x0, hx0, ex⟩ := Option.map_eq_some_iff.mp hx
      subst ex
      obtain ⟨y', e1, r1⟩ := r'.get hx0
      have e2 := hy zs sq'
      rw [e1] at e2
      cases e2
      exact yld_pair hn sr r1
    · obtain ⟨zs, sq', r'⟩ := CRep.sql sr ok
      rw [show (Seq.mk (enI 0 xs) _).xs = enI 0 xs from rfl, enI_length] at hi
      exact ⟨zs, sq', r'.length ▸ hi⟩
  | _ => exact h1.elim⟩
end
end A3

set_option Elab.async false
set_option linter.all false
set_option maxRecDepth 100000
set_option maxHeartbeats 4000000
namespace A3
open PySem PySem.Spec PyProof.Rows L2 PySem.W PySem.SeqAt
/-! ### sorted of tuples, an empty one among them too -/
section
variable {prog : Program} {w : World} {A : Around} {E : Value → Shared → Prop} {s : Shared}
theorem call_tuple_lt {Q : Value → Shared → Prop} {l b : Addr} {items items2 : Array Value} {e r : Nat → Bool} (hl : s.heap.IsTuple l items) (hb : s.heap.IsTuple b items2)
    (he : ∀ j (h1 : j < items.size) (h2 : j < items2.size), EqAt A.in1 s items[j] items2[j] (e j)) (hr : ∀ j (h1 : j < items.size) (h2 : j < items2.size), e j = false → RcLt A.in1 s items[j] items2[j] (r j))
    (h : Q (.bool (firstLt e r (decide (items.size < items2.size)) (List.range (min items.size items2.size)))) s) : wpAny (model prog w) A (call (.builtin "tuple.__lt__") [.ref l, .ref b]) Q E s := by
  obtain ⟨⟨cls, dd, data, sl⟩, ho, hc, n, hd⟩ := id hl
  obtain ⟨⟨cls2, dd2, data2, sl2⟩, ho2, hc2, n2, hd2⟩ := id hb
  simp only at hc hd hc2 hd2
  subst hc hd hc2 hd2
  exact call_meets F.slot_tuple_lt ⟨_, ho, rfl⟩ F.entry_tuple_lt (F.args_tuple_lt_2 _ _) (tuple_ltAt l b items items2 n n2 dd dd2 sl sl2 e r) ⟨ho, ho2, he, hr, h⟩
theorem oneLt_tup {f : Bool} {xs ys : List PyData} {a b : Value} {as bs : List Addr} {Q : Bool → Shared → Prop} (ra : Reads s.heap a (.tuple xs) as) (rb : Reads s.heap b (.tuple ys) bs) (h : alike (.tuple xs) (.tuple ys) = true)
    (hu : A.units + min (PyData.tuple xs).depth (PyData.tuple ys).depth < cLine) (hq : Q (dataLt (.tuple xs) (.tuple ys)) s) : wpAny (model prog w) A (oneLt' f a b) Q E s := by
  cases f with
  | false => exact oneLt_alike (fun h => by cases h) ra rb h (fun h => by cases h) hu hq
  | true =>
    have hal : alikeAll xs ys = true := by simpa [alike] using h
    cases ra with
    | @tuple l o vs n _ as₁ h1 h2 h3 h4 =>
      cases rb with
      | @tuple l' o' vs' n' _ bs₁ k1 k2 k3 k4 =>
        have n1 : vs.size = xs.length := by simpa using ReadsAll.length _ _ _ h4
        have n2 : vs'.size = ys.length := by simpa using ReadsAll.length _ _ _ k4
        rw [dataLt_tuple, ← firstLt_toks xs ys hal, ← n1, ← n2] at hq
        rw [oneLt'_eq]
        simp only [if_true]
        refine wpAny_bind (wpAny_cRoomFor (room_here hu) ?_)
        refine wpAny_bind (wpAny_callSpecialIfBound?_slot (T := "tuple") ⟨_, h1, h2⟩ F.slot_tuple_lt (call_tuple_lt (e := pairEq xs ys) (r := fun j => dataLt (xs.getD j .none) (ys.getD j .none)) ⟨_, h1, h2, _, h3⟩ ⟨_, k1, k2, _, k3⟩ (fun j j1 j2 => ?_) (fun j j1 j2 hj => ?_) ?_))
        · have := eqAt_alikeAll xs ys A.in1 s vs.toList vs'.toList _ _ h4 k4 hal (room_in hu) j (by simpa using j1) (by simpa using j2)
          simpa using this
        · have := rcLt_alikeAll xs ys A.in1 s vs.toList vs'.toList _ _ h4 k4 hal (room_in hu) j (by simpa using j1) (by simpa using j2) hj
          simpa using this
        · exact wpAny_truthy_bool hq
def neT : PyData → Bool
  | .tuple (_ :: _) => true
  | _ => false
theorem firsts_go : ∀ (vs : List Value) (ds : List PyData) {Q : List (Option Value) → Shared → Prop}, EachIs (fun v d => ∃ as, Reads s.heap v d as) vs ds → (∀ d, d ∈ ds → ∃ xs, d = .tuple xs) →
    (∀ fs : List (Option Value), fs.map Option.isSome = ds.map neT → Q fs s) → wpAny (model prog w) A (vs.mapM firstOfTuple') Q E s
  | _, _, _, .nil, _, h => by rw [List.mapM_nil]; exact wpAny_pure (h [] rfl)
  | _, _, Q, .cons (a := v) (b := d) (as := vs) (bs := ds) ⟨as, r⟩ t, ht, h => by
    obtain ⟨xs, rfl⟩ := ht d (List.mem_cons_self ..)
    rw [List.mapM_cons]
    cases r with
    | @tuple a o its n _ _ ho hc hd hr =>
      refine wpAny_bind ?_
      rw [kas_first_eq]
      refine wpAny_bind (Looks.here (show Looks (model prog w) s.heap (typeOf (.ref a)) o.cls from (Looks.ld ho).andThen .now) ?_)
      rw [hc, if_neg (by first | decide | simp)]
      refine wpAny_bind (listItems_at ho hd (wpAny_pure ?_))
      refine wpAny_bind (firsts_go vs ds (Q := fun bs s' => wpAny (model prog w) A (pure (its[0]? :: bs)) Q E s') t (fun d hd => ht d (List.mem_cons_of_mem _ hd)) fun fs hfs => wpAny_pure (h _ ?_))
      rw [List.map_cons, List.map_cons, hfs]
      congr 1
      have hl : its.size = xs.length := by simpa using ReadsAll.length _ _ _ hr
      cases xs with
      | nil =>
        have h0 : its.size = 0 := hl
        rw [Array.getElem?_eq_none (by omega)]
        rfl
      | cons x r =>
        have h0 : its.size = r.length + 1 := hl
        rw [Array.getElem?_eq_getElem (by omega)]
        rfl
/-- tuples that read as alike data can be sorted -/
theorem sortsAt_tup {vs : List Value} {ds : List PyData} (e : EachIs (fun v d => ∃ as, Reads s.heap v d as) vs ds) (hal : AllAlike ds) (ht : ∀ d, d ∈ ds → ∃ xs, d = .tuple xs) (hu : ∀ d, d ∈ ds → A.units + d.depth < cLine) : SortsAt prog w A s (dataKind s.heap ds) vs := by
  by_cases hall : ∀ d, d ∈ ds → ∃ x r, d = .tuple (x :: r)
  · exact SortsAt.data e hal (.inl hall) hu
  have hsome : (ds.map neT).all id = false := by
    cases q : (ds.map neT).all id with
    | false => rfl
    | true =>
      refine absurd (fun d hd => ?_) hall
      have := List.all_eq_true.mp q (neT d) (List.mem_map.mpr ⟨d, hd, rfl⟩)
      obtain ⟨xs, rfl⟩ := ht d hd
      cases xs with
      | nil => cases this
      | cons x r => exact ⟨x, r, rfl⟩
  have room : ∀ {d d' : PyData}, d ∈ ds → A.units + min d.depth d'.depth < cLine := fun {d d'} hd => Nat.lt_of_le_of_lt (Nat.add_le_add_left (Nat.min_le_left _ _) _) (hu d hd)
  refine ⟨fun v hv => ?_, ?_⟩
  · obtain ⟨d, hd, as, r⟩ := e.left v hv
    exact ⟨_, dataKind_some hal hd r⟩
  · have lt1 : ∀ f kd, (∀ x y, keyLt' kd x y = oneLt' f x y) → H.LtAt prog w A s (dataKind s.heap ds) kd := fun f kd hkd => by
      intro E x y a b Q ha hb hq
      obtain ⟨d, as, hd, ra, rfl⟩ := dataKind_inv ha
      obtain ⟨d', as', hd', rb, rfl⟩ := dataKind_inv hb
      obtain ⟨xs, rfl⟩ := ht d hd
      obtain ⟨ys, rfl⟩ := ht d' hd'
      rw [hkd]
      exact oneLt_tup ra rb (hal _ hd _ hd') (room hd) hq
    have hfs : ∀ fs : List (Option Value), fs.map Option.isSome = ds.map neT → (fs.toArray.all fun x => x.isSome) = false := fun fs h => by
      have h2 : (fs.map Option.isSome).all id = false := by rw [h]; exact hsome
      simpa [List.all_map] using h2
    cases ds with
    | nil => exact absurd (fun d hd => by cases hd) hall
    | cons d₀ ds₀ =>
      obtain ⟨xs₀, e₀⟩ := ht d₀ (List.mem_cons_self ..)
      subst e₀
      cases xs₀ with
      | cons x₀ r₀ =>
        refine ⟨general', lt1 false _ fun _ _ => rfl, fun h2 E Q hq => ?_⟩
        rw [kat_kind_eq, List.mapM_toArray, map_eq_pure_bind]
        refine wpAny_bind (wpAny_bind (firsts_go vs _ e ht fun fs h => wpAny_pure ?_))
        have h0 : (fs.toArray[0]?.bind id).isSome = true := by
          cases fs with
          | nil => cases h
          | cons f fr =>
            have : f.isSome = true := (List.cons.inj h).1
            simpa using this
        rw [if_neg (by rw [hfs fs h]; decide), if_pos h0]
        exact wpAny_pure hq
      | nil =>
        refine ⟨oneType', lt1 true _ fun _ _ => rfl, fun h2 E Q hq => ?_⟩
        rw [kat_kind_eq, List.mapM_toArray, map_eq_pure_bind]
        refine wpAny_bind (wpAny_bind (firsts_go vs _ e ht fun fs h => wpAny_pure ?_))
        have h0 : ¬ (fs.toArray[0]?.bind id).isSome = true := by
          cases fs with
          | nil => cases h
          | cons f fr =>
            have : f.isSome = false := (List.cons.inj h).1
            simp only [List.getElem?_toArray, List.getElem?_cons_zero, Option.bind_some, id]
            rw [this]
            decide
        rw [if_neg (by rw [hfs fs h]; decide), if_neg h0]
        have hT : ∀ v ∈ vs, Looks (model prog w) s.heap (typeOf v) (Value.type "tuple") := fun v hv => by
          obtain ⟨d, hd, as, r⟩ := e.left v hv
          obtain ⟨xs, rfl⟩ := ht d hd
          exact looks_reads r
        obtain ⟨v₁, vr, rfl⟩ : ∃ v₁ vr, vs = v₁ :: vr := by
          cases vs with
          | nil => simp at h2
          | cons v vr => exact ⟨v, vr, rfl⟩
        rw [oneTypeOnly'_eq, List.mapM_toArray, map_eq_pure_bind]
        refine wpAny_bind (wpAny_bind (wpAny_bind (kas_mapM (r := Value.type "tuple") _ (fun v hv Q' hq => (hT v hv).here hq) (wpAny_pure ?_))))
        have hall2 : ((List.map (fun _ => Value.type "tuple") (v₁ :: vr)).toArray.all fun x => x == Value.type "tuple") = true := by
          simp only [List.all_toArray, List.all_map, List.all_eq_true]
          intro _ _
          exact beq_self_eq_true _
        have h00 : (List.map (fun _ => Value.type "tuple") (v₁ :: vr)).toArray[0]? = some (Value.type "tuple") := by simp
        rw [h00]
        simp only [hall2, if_true]
        exact wpAny_pure (wpAny_pure hq)
/-- sorted(xs) of tuples -/
theorem sorted_tup {β : Type} {vs : List Value} {bs : List β} {enc : β → PyData} {R : Value → β → Prop} {l : Addr} {Q : Value → Shared → Prop} (hl : s.heap.IsList l vs.toArray) (e : EachIs R vs bs) (er : EachIs (fun v b => ∃ as, Reads s.heap v (enc b) as) vs bs) (hal : AllAlike (bs.map enc)) (ht : ∀ d, d ∈ bs.map enc → ∃ xs, d = .tuple xs) (hL : bs.length ≤ sizeLine)
    (hu : ∀ b, b ∈ bs → A.units + 2 + (enc b).depth < cLine) (h : ∀ out, out.length = bs.length → EachIs R out (bs.mergeSort (dataLe false enc)) → Q (.ref (s.heap.objs.size + 1)) { s with heap := sortedAll s.heap vs (List.toArray out) }) :
    wpAny (model prog w) A (call (.builtin "sorted") [.ref l]) Q E s := by
  have er' : EachIs (fun v b => ∃ as, Reads (sortingHeap (copyHeap s.heap vs) (s.heap.objs.size + 1) vs) v (enc b) as) vs bs := er.mono fun _ _ ⟨as, r⟩ => ⟨as, PyProof.Rows.Reads.keeps (fun _ _ => sorting_copy_old) r⟩
  exact sorted_vals hl (sortsAt_tup (s := { s with heap := sortingHeap (copyHeap s.heap vs) (s.heap.objs.size + 1) vs }) (each_map (R := fun v d => ∃ as, Reads (sortingHeap (copyHeap s.heap vs) (s.heap.objs.size + 1) vs) v d as) enc er') hal ht (bound_map hu)) (by rw [e.length]; exact hL)
    (h _ (by rw [sortVals_length false rfl]; exact e.length) (sortVals_data false e er' hal))
end
/-- the datum of a row of whole numbers -/
def encI (z : List Int) : PyData := .tuple (z.map .int)
def tupI (z : List Int) : Val := .tup (z.map .int)
/-- sorted: rows of whole numbers -/
noncomputable def srtI (zs : List (List Int)) : List (List Int) := zs.mergeSort (dataLe false encI)
theorem srtI_perm (zs : List (List Int)) : (srtI zs).Perm zs := List.mergeSort_perm ..
def sortedTC : AC := fun xs S R => match xs with
  | [.ref p] => ∃ zs : List (List Int), (S p = some (.lst (zs.map tupI)) ∨ S p = some (.rd (zs.map tupI))) ∧ zs.length ≤ sizeLine ∧
      ∀ q : Addr, S q = none → R (.ref q) (ups S q (.lst ((srtI zs).map tupI)))
  | _ => False
theorem encI_dep (z : List Int) : (encI z).depth ≤ 1 := by
  simp [encI, PyData.depth, depth_ints]
theorem drel_tupI {S : Store} (z : List Int) : DRel S (tupI z) (encI z) := .tup (go z)
where go : ∀ z : List Int, DRels S (z.map .int) (z.map .int)
  | [] => .nil
  | i :: z => .cons (.int i) (go z)
section
variable {X : Cx} {T : Tb}
theorem pair_in {K : PySem.W.Frag} {H : Hp} : ∀ {zs : List (List Int)} {ys : List V} {its : List Value}, VReps K H (zs.map tupI) ys → Vals ys its → EachIs (fun u z => ∃ y, RelV y u ∧ VRep K H (tupI z) y) its zs
  | [], _, _, .nil, .nil => .nil
  | _ :: _, _, _, .cons r t, .cons a b => .cons ⟨_, a, r⟩ (pair_in t b)
theorem pair_out {K : PySem.W.Frag} {H : Hp} : ∀ {zs : List (List Int)} {its : List Value}, EachIs (fun u z => ∃ y, RelV y u ∧ VRep K H (tupI z) y) its zs → ∃ ys, Vals ys its ∧ VReps K H (zs.map tupI) ys
  | [], _, .nil => ⟨[], .nil, .nil⟩
  | _ :: _, _, .cons ⟨y, a, r⟩ t => by
    obtain ⟨ys, h1, h2⟩ := pair_out t
    exact ⟨y :: ys, .cons a h1, .cons r h2⟩
theorem cA_sortedT (hu : X.A.units + 64 < cLine) : CallR X (.builtin "sorted") (lowC X.K T sortedTC) := by
  intro pins s σ H xs' us Q I rv ⟨xs, S, R, vx, sr, q, k⟩
  unfold sortedTC at q
  split at q
  · obtain ⟨zs, hS, hL, q⟩ := q
    cases vx with
    | cons v t =>
      cases v
      cases t
      obtain ⟨ys, sq, r⟩ := CRep.sql sr hS
      rw [Vals.ref1 rv]
      obtain ⟨its, rvi, hl, _⟩ := I.list sq
      have pr := pair_in r rvi
      refine sorted_tup (enc := encI) hl.isList pr (pr.mono fun u z ⟨y, a, b⟩ => Dp.reads I _ y u ((drel_tupI z).dp sr b) a) (AllAlike.of fun b b' => by simp [encI, alike, alike_ints]) (fun d hd => ?_) hL (fun b _ => ?_) fun out h1 h2 => ?_
      · obtain ⟨z, _, rfl⟩ := List.mem_map.mp hd
        exact ⟨_, rfl⟩
      · have := encI_dep b
        omega
      · obtain ⟨ys', v1, v2⟩ := pair_out h2
        obtain ⟨ep, he'⟩ := PyProof.Rows.sortedAll_at s.heap its out.toArray
        have hlen : ys'.length ≤ sizeLine := by
          rw [v1.length, h1]
          exact hL
        exact ⟨.ref _, upd H (s.heap.objs.size + 1) (.lst ys'), I.laid (t' := s.toks) (fun _ _ => PyProof.Rows.sortedAll_old) (Nat.le_succ _) ⟨hlen, out, ep, v1, he'⟩, rfl, newLst sr (I.hok.fresh (Nat.le_succ _)) v2 q k⟩
  · exact q.elim
end
end A3

set_option Elab.async false
set_option linter.all false
set_option maxRecDepth 100000
set_option maxHeartbeats 4000000
namespace A3
open PySem PySem.Spec PyProof.Rows L2
/-! ### tuples that are known to bear no dict: their own methods -/
section
variable {X : Cx} {T : Tb} {W : WX} {es : List Expr} {o e : Expr} {ao : AE} {t : AA} {pos apos cpos : Pos}
/-- the tuple with its object -/
def FzT (H : Hp) (a : Addr) (xs : List V) : Prop := ∃ o : Obj, H a = some (.frz o (.tup xs)) ∧ o.dict = none
theorem FzT.sq {K : PySem.W.Frag} {H : Hp} {a : Addr} {xs : List V} (h : FzT H a xs) : SqT K H a xs := by
  obtain ⟨o, e, _⟩ := h
  exact .inl (.inr ⟨o, e⟩)
def tTupF (t : TA) : TE := fun σ H Q => t σ H fun xs H1 => xs.length ≤ sizeLine ∧ ∀ (p : Addr) (o : Obj), o.dict = none → H1 p = none → Q (.ref p) (upd H1 p (.frz o (.tup xs)))
theorem pe_tupF {x1} {t : TA} (h : PA X es t) : PE X (.Tuple es x1 pos) (tTupF t) := by
  refine ⟨fun pins s σ H Q I hq => ?_⟩
  refine wpAny_Tuple_spliced (thn (h.run pos pins s σ H _ I hq) fun us s1 ⟨xs, H1, I1, r, z, q⟩ => ⟨by rw [← r.length]; exact z, ?_⟩)
  have hf : H1 s1.heap.objs.size = none := I1.hok.fresh (Nat.le_refl _)
  refine ⟨.ref s1.heap.objs.size, upd H1 s1.heap.objs.size (.frz { cls := .type "tuple", data := .seq us.toArray } (.tup xs)), I1.laid (t' := s1.toks) (fun b u e => Heap.get?_push_of_some _ e) (Nat.le_refl _) ?_, rfl, q _ _ rfl hf⟩
  exact ⟨Heap.get?_push_size _ rfl, z, us, r, ⟨_, Heap.get?_push_size _ rfl, rfl, _, rfl⟩⟩
def rCatF : R2 := fun x y H Q => ∃ a b xs ys, x = .ref a ∧ y = .ref b ∧ FzT H a xs ∧ FzT H b ys ∧ xs.length + ys.length ≤ sizeLine ∧
  (xs = [] → Q (.ref b) H) ∧ (xs ≠ [] → ys = [] → Q (.ref a) H) ∧ (xs ≠ [] → ys ≠ [] → ∀ (p : Addr) (o : Obj), o.dict = none → H p = none → Q (.ref p) (upd H p (.frz o (.tup (xs ++ ys)))))
theorem op_catF : OpR X (binaryOp .Add) rCatF := by
  intro pins s σ H x y v u Q I rx ry h
  obtain ⟨a, b, xs, ys, rfl, rfl, ha, hb, hz, q0, q1, q2⟩ := h
  cases rx
  cases ry
  obtain ⟨its, r1, p1, _⟩ := I.tuple ha.sq
  obtain ⟨its2, r2, p2, _⟩ := I.tuple hb.sq
  by_cases hx : xs = []
  · subst hx
    cases r1
    exact cat_tup0 p1 p2 ⟨.ref b, H, I, rfl, q0 rfl⟩
  · refine HT.cat_tup p1 p2 (fun z => hx (r1.nil_iff.mp z)) (fun z => ⟨.ref a, H, I, rfl, q1 hx (r2.nil_iff.mp z)⟩) (fun z => ?_) (by rw [← r1.length, ← r2.length]; exact hz)
    refine ⟨.ref s.heap.objs.size, _, I.laid (t' := s.toks) (o := .frz { cls := .type "tuple", data := .seq (its ++ its2).toArray } (.tup (xs ++ ys))) (fun b ob q => Heap.get?_push_of_some _ q) (Nat.le_refl _) ?_, rfl, q2 hx (fun w => z (r2.nil_iff.mpr w)) _ _ rfl (I.hok.fresh (Nat.le_refl _))⟩
    exact ⟨Heap.get?_push_size _ rfl, by rw [List.length_append]; exact hz, _, r1.append r2, IsTup.new _ _⟩
def tyF (x : V) (H : Hp) : Prop := ∃ p xs, x = .ref p ∧ FzT H p xs
theorem tyF_is {pins : List (Addr × Obj)} {σ : St} {H : Hp} {s : Shared} {x : V} {v : Value} (I : Inv X pins σ H s) (r : RelV x v) (ty : tyF x H) :
    s.TypeIs v "tuple" ∧ ∀ a, v = .ref a → ∃ ob, s.heap.get? a = some ob ∧ ob.dict = none := by
  obtain ⟨p, xs, rfl, ob, e, hd⟩ := ty
  cases r
  obtain ⟨h1, h2⟩ := (show ObjOk X.prog X.w H s.heap p (.frz ob (.tup xs)) from I.hok p _ e)
  obtain ⟨_, its, _, ob2, h3, hc, _⟩ := h2
  rw [h1] at h3
  cases h3
  refine ⟨⟨ob, h1, hc⟩, fun a e2 => ?_⟩
  cases e2
  exact ⟨ob, h1, hd⟩
def tBMF (r : V → List V → Hp → VK → Prop) (to : TE) (t : TA) : TE := fun σ H Q => to σ H fun x H1 => tyF x H1 ∧ t σ H1 fun xs H2 => r x xs H2 Q
theorem pe_bmF {to : TE} {t : TA} {id : String} {name : Str} {r : V → List V → Hp → VK → Prop} (slot : Slot "tuple" name id) (hty : typeOf (.builtin id) = pure (.type "method_descriptor")) (hm : MtR X id r) (ho : PE X o to) (ha : PA X (e :: es) t)
    (hbase : attributeBase o name X.env (eval o X.env) = eval o X.env := by rfl)
    (hfew : ((backTo cpos (starEach (e :: es) X.env)).all (fun x => !x.1) && (backToKw cpos (keywordEach [] X.env)).all (fun x => x.1.isSome)
      && decide ((e :: es).length + ([] : List Keyword).length + (if ([] : List Keyword).isEmpty then 0 else 1) < 30)) = true := by rfl)
    (hline : (apos.endLine == cpos.line) = true := by rfl) (hs : starEach (e :: es) X.env = (false, eval e X.env) :: starEach es X.env := by rfl) (hplain : (backTo cpos (starEach es X.env)).any (·.1) = false := by rfl) :
    PE X (.Call (.Attribute o name apos) (e :: es) [] cpos) (tBMF r to t) := by
  refine ⟨fun pins s σ H Q I h => ?_⟩
  refine wpAny_Call_method_late hbase hfew hline rfl (thn (ho.run pins s σ H _ I h) fun v s1 ⟨x, H1, I1, r1, ty, q1⟩ => ?_)
  obtain ⟨h1, h2⟩ := tyF_is I1 r1 ty
  refine ⟨"tuple", id, PySem.F.plainAttrs_tuple, slot, hty, h1, h2, ?_⟩
  have hA := ha.run cpos pins s1 σ H1 _ I1 q1
  rw [hs] at hA ⊢
  refine Calls.callWith_builtin (by show (false || (backTo cpos (starEach es X.env)).any (·.1)) = false; rw [hplain] <;> rfl) (Calls.evalArgs_plain ?_)
  exact thn hA fun us s2 ⟨vs, H2, I2, r2, q2⟩ => hm pins s2 σ H2 x vs v us Q I2 r1 r2 q2

/-! lifted -/
/-- a, b, c = x, y, z with plain local names -/
def sPar3 (i j l : Nat) (t : AA) : AS := fun D es S => t (D.xe es) es S fun vs S1 => match vs with
  | [u, v, w] => D.nx (((es.set i (some u)).set j (some v)).set l (some w)) S1
  | _ => False
theorem is_par3 {i j l : Nat} {x y z : Str} {a b c : Expr} {ta : AA} {px py pz pt : Pos} {kt k2 pt2} (hc : X.calm = true) (hN : X.N.Nodup) (hi : X.N[i]? = some x) (hj : X.N[j]? = some y) (hl : X.N[l]? = some z) (hij : i ≠ j) (hil : i ≠ l) (hjl : j ≠ l)
    (hx : X.env.scope.names.lookup x = some .local) (hy : X.env.scope.names.lookup y = some .local) (hz : X.env.scope.names.lookup z = some .local) (ha : IA X T W [a, b, c] ta)
    (hw : swappedStores [.Tuple [.Name x px, .Name y py, .Name z pz] kt pt] (.Tuple [a, b, c] k2 pt2) X.env = pure (some [x, y, z]) := by rfl)
    (hs : swapsWithSole [.Tuple [.Name x px, .Name y py, .Name z pz] kt pt] (.Tuple [a, b, c] k2 pt2) pos.line X.env = pure false := by rfl) :
    IS X T W (.Assign [.Tuple [.Name x px, .Name y py, .Name z pz] kt pt] (.Tuple [a, b, c] k2 pt2) pos) (sPar3 i j l ta) := ⟨ps_mono (ps_par3 hc hN hi hj hl hij hil hjl hx hy hz ha.r hw hs) fun D σ H h => by
  obtain ⟨es, S, Da, er, sr, q, dr⟩ := h
  refine ⟨es, S, _, _, er, sr, dr.xe er, q, fun vs S1 h1 H1 vs' t1 s1 r1 => ?_⟩
  match vs, vs', r1, h1 with
  | [u, v, w], [u', v', w'], .cons a (.cons b (.cons c .nil)), h1 => exact ⟨u', v', w', rfl, dr.nx _ _ h1 _ _ t1 ((((er.ext t1).set a i).set b j).set c l) s1⟩⟩
def aTupF (t : AA) : AE := fun E es S R => t E es S fun xs S1 => xs.length ≤ sizeLine ∧ ∀ p, S1 p = none → R (.ref p) (ups S1 p (.ft xs))
theorem newFt {K : PySem.W.Frag} {S : Store} {H : Hp} {xs : List Val} {ys : List V} {R : AK} {Q : VK} {p : Addr} {ob : Obj} (sr : SRep K T S H) (hp : H p = none) (hd : ob.dict = none) (r : VReps K H xs ys) (h : ∀ p, S p = none → R (.ref p) (ups S p (.ft xs)))
    (k : ∀ v S', R v S' → ∀ H' v', TupX K H H' → SRep K T S' H' → VRep K H' v v' → Q v' H') : Q (.ref p) (upd H p (.frz ob (.tup ys))) :=
  k _ _ (h p (sr.free hp)) _ _ (.upd (noTup_none hp)) (sr.new (c := .ft xs) hp ⟨ob, ys, upd_same, hd, r.ext (.upd (noTup_none hp))⟩) (.ref p)
theorem ie_tupF {x1} (h : IA X T W es t) : IE X T W (.Tuple es x1 pos) (aTupF t) := ⟨pe_mono (pe_tupF h.r) fun σ H Q h => by
  obtain ⟨es, S, E, R, er, sr, xr, h, k⟩ := h
  refine ⟨es, S, E, _, er, sr, xr, h, fun xs S1 h1 H1 xs' t1 s1 v1 => ⟨v1.length ▸ h1.1, fun p ob hd hp => ?_⟩⟩
  exact newFt s1 hp hd v1 h1.2 fun v S' hv H' v' t s q => k _ _ hv _ _ (t1.trans t) s q⟩
/-- t + u of such -/
def addF : A2 := fun x y S R => match x, y with
  | .ref p, .ref q => ∃ xs ys, S p = some (.ft xs) ∧ S q = some (.ft ys) ∧ xs.length + ys.length ≤ sizeLine ∧ xs ≠ [] ∧ (ys = [] → R (.ref p) S) ∧ (ys ≠ [] → ∀ r, S r = none → R (.ref r) (ups S r (.ft (xs ++ ys))))
  | _, _ => False
theorem oA_addF : OpR X (binaryOp .Add) (low2 X.K T addF) := opA fun x y S R x' y' H Q vx vy sr q k => by
  cases vx with
  | ref a =>
    cases vy with
    | ref b =>
      obtain ⟨xs, ys, h1, h2, hz, hx, q1, q2⟩ := q
      obtain ⟨o1, xs', e1, d1, r1⟩ := sr.cell a _ h1
      obtain ⟨o2, ys', e2, d2, r2⟩ := sr.cell b _ h2
      refine ⟨_, op_catF, a, b, xs', ys', rfl, rfl, ⟨o1, e1, d1⟩, ⟨o2, e2, d2⟩, r1.length ▸ r2.length ▸ hz, fun e => ?_, fun _ e => ?_, fun _ e p ob hd hp => newFt sr hp hd (r1.append r2) (q2 fun z => ?_) k⟩
      · subst e
        cases r1
        exact absurd rfl hx
      · subst e
        cases r2
        exact k _ _ (q1 rfl) H _ (.refl H) sr (.ref a)
      · subst z
        cases r2
        exact e rfl
    | _ => exact q.elim
  | _ => exact q.elim
def aBMF (r : AM) (o : AE) (t : AA) : AE := fun E es S R => o E es S fun x S1 => (∃ p xs, x = .ref p ∧ S1 p = some (.ft xs)) ∧ t E es S1 fun xs S2 => r x xs S2 R
theorem ie_bmF {id : String} {name : Str} {r : AM} (slot : Slot "tuple" name id) (hty : typeOf (.builtin id) = pure (.type "method_descriptor")) (hm : MtR X id (lowM X.K T r)) (ho : IE X T W o ao) (ha : IA X T W (e :: es) t)
    (hbase : attributeBase o name X.env (eval o X.env) = eval o X.env := by rfl)
    (hfew : ((backTo cpos (starEach (e :: es) X.env)).all (fun x => !x.1) && (backToKw cpos (keywordEach [] X.env)).all (fun x => x.1.isSome)
      && decide ((e :: es).length + ([] : List Keyword).length + (if ([] : List Keyword).isEmpty then 0 else 1) < 30)) = true := by rfl)
    (hline : (apos.endLine == cpos.line) = true := by rfl) (hs : starEach (e :: es) X.env = (false, eval e X.env) :: starEach es X.env := by rfl) (hplain : (backTo cpos (starEach es X.env)).any (·.1) = false := by rfl) :
    IE X T W (.Call (.Attribute o name apos) (e :: es) [] cpos) (aBMF r ao t) :=
  ⟨pe_mono (pe_bmF slot hty hm ho.r ha.r hbase hfew hline hs hplain) fun σ H Q h => by
    obtain ⟨es, S, E, R, er, sr, xr, h, k⟩ := h
    refine ⟨es, S, E, _, er, sr, xr, h, fun x S1 h1 H1 x' t1 s1 v1 => ⟨?_, es, S1, E, _, er.ext t1, s1, xr.ext t1, h1.2, fun xs S2 h2 H2 xs' t2 s2 v2 => ⟨x, xs, S2, R, v1.ext t2, v2, s2, h2, fun v S' hv H' v' t s q => k _ _ hv _ _ ((t1.trans t2).trans t) s q⟩⟩⟩
    obtain ⟨⟨p, xs, rfl, hS⟩, _⟩ := h1
    cases v1
    obtain ⟨ob, ys, e, hd, _⟩ := s1.cell p _ hS
    exact ⟨p, ys, rfl, ob, e, hd⟩⟩
/-- t.index(x) of texts -/
def indexFM : AM := fun x xs S R => match x, xs with
  | .ref p, [.str z] => ∃ (ys : List Str) (j : Nat), S p = some (.ft (ys.map .str)) ∧ ys[j]? = some z ∧ (∀ m, m < j → ys[m]? ≠ some z) ∧ R (.int (j : Nat)) S
  | _, _ => False
theorem mA_indexF : MtR X "tuple.index" (lowM X.K T indexFM) := methA fun x xs S R x' xs' H Q vx vxs sr q k => by
  unfold indexFM at q
  split at q
  · obtain ⟨ys, j, h, hj, hm, q⟩ := q
    cases vx
    cases vxs with
    | cons v t =>
      cases t
      cases v
      obtain ⟨ob, zs, e, hd, r⟩ := sr.cell _ _ h
      rw [r.strs] at e
      exact ⟨_, mt_tup_index, _, ys, _, j, rfl, rfl, .inl (.inr ⟨ob, e⟩), hj, hm, k _ _ q H _ (.refl H) sr (.int _)⟩
  · exact q.elim
end
end A3

set_option Elab.async false
set_option linter.all false
set_option maxRecDepth 100000
set_option maxHeartbeats 4000000
/-! sorted(set(xs)) of a list of texts: after HandS.Set's sets of ints. -/
namespace A3
open PySem PySem.Spec PyProof.Rows L2
/-! ### what a set of ints is -/
def keyT (e : Int × Value) : Str := match e.2 with | .str k _ => k | _ => Str.empty
def GoodT (w : World) (e : Int × Value) : Prop := ∃ k tk, e.2 = Value.str k tk ∧ e.1 = hashStr w k

/-- the set of ints at a: S its members, n their number; its table rises and can be walked -/
def SetTx (w : World) (h : Heap) (a : Addr) (S : Str → Bool) (n : Nat) : Prop :=
  ∃ o es ep t, h.get? a = some o ∧ o.ExactSet ∧ o.data = .set es ep t ∧ (∀ e ∈ es.toList, GoodT w e) ∧ (es.toList.map keyT).Nodup ∧ (∀ k, S k = true ↔ k ∈ es.toList.map keyT) ∧
    es.size < scanBound ∧ t.fits es.size = true ∧ es.size = n ∧ Ris t.place.toList ∧ (w.params.followText "set-order" = true ∨ t.led = true)

section
variable {P : Program} {w : World} {h h' : Heap} {a : Addr} {S : Str → Bool} {n : Nat}

theorem SetTx.at (R : SetTx w h a S n) (k : ∀ o, h.get? a = some o → h'.get? a = some o) : SetTx w h' a S n := by
  obtain ⟨o, es, ep, t, ho, r⟩ := R
  exact ⟨o, es, ep, t, k o ho, r⟩
theorem SetTx.lt (R : SetTx w h a S n) : a < h.objs.size := by
  obtain ⟨o, es, ep, t, ho, r⟩ := R
  exact Heap.lt_size ho
theorem SetTx.congr {S' : Str → Bool} (R : SetTx w h a S n) (e : ∀ k, S' k = S k) : SetTx w h a S' n := by
  have q : S' = S := funext e
  rw [q]; exact R
theorem goodT_elems {l : List (Int × Value)} (g : ∀ e ∈ l, GoodT w e) : ElemsOf (PySem.strKind P w) l := fun e he => by
  obtain ⟨k, tk, h1, h2⟩ := g e he
  exact ⟨⟨k, by rw [h1]; exact PySem.strKind_is P w k tk, h2⟩, by rw [h1] <;> rfl⟩
theorem goodT_is {e : Int × Value} (g : GoodT w e) (k : Str) : (PySem.strKind P w).is k e.2 = true ↔ keyT e = k := by
  obtain ⟨k0, tk, h1, _⟩ := g
  unfold keyT
  rw [h1]
  show ((k0 == k) = true) ↔ k0 = k
  exact beq_iff_eq
theorem goodT_mem {l : List (Int × Value)} (g : ∀ e ∈ l, GoodT w e) (k : Str) : k ∈ l.map keyT ↔ ∃ e ∈ l, (PySem.strKind P w).is k e.2 = true := by
  rw [List.mem_map]
  constructor
  · rintro ⟨e, he, q⟩
    exact ⟨e, he, (goodT_is (g e he) k).2 q⟩
  · rintro ⟨e, he, q⟩
    exact ⟨e, he, (goodT_is (g e he) k).1 q⟩
theorem SetTx.setOf (R : SetTx w h a S n) : h.SetOf (PySem.strKind P w) a S n := by
  obtain ⟨o, es, ep, t, ho, hx, hd, g, nd, hm, hb, hf, hn, _⟩ := R
  exact ⟨o, es, ep, t, ho, hx, hd, goodT_elems g, fun k => (hm k).trans (goodT_mem g k), hb, hf, hn⟩
end

section
variable {P : Program} {w : World} {A : Around} {E : Value → Shared → Prop} {s : Shared} {a : Addr} {S : Str → Bool} {n : Nat}

/-! ### add -/
theorem setT_add_tail {g : Bool → Sem Unit} (hg : ∀ (b : Bool) (s₁ : Shared) (Q' : Unit → Shared → Prop), Q' () s₁ → wpAny (model P w) A (g b) Q' E s₁)
    {o : Obj} {es : Array (Int × Value)} {ep : Nat} {t : SetTable} (ho : s.heap.get? a = some o) (hex : o.ExactSet) (hd : o.data = .set es ep t)
    {es1 : Array (Int × Value)} {t2 : SetTable} {S' : Str → Bool} (g1 : ∀ e ∈ es1.toList, GoodT w e) (nd1 : (es1.toList.map keyT).Nodup) (m1 : ∀ k, S' k = true ↔ k ∈ es1.toList.map keyT)
    (hb1 : es1.size < scanBound) (hf2 : t2.fits es1.size = true) (hr : Ris t2.place.toList) (hl : w.params.followText "set-order" = true ∨ t2.led = true) {wasDummy : Bool} {R : Option Bool → Shared → Prop}
    (hR : ∀ h', Heap.SameBut a s.heap h' → SetTx w h' a S' es1.size → R (some true) { s with heap := h' }) :
    wpAny (model P w) A (do
        storeSet a es1 t2
        if (!wasDummy && t2.tooFull) = true then do
            g (relayAll t2 es1 (SetTable.grown es1.size)).2.2
            storeSet a (relayAll t2 es1 (SetTable.grown es1.size)).1 (relayAll t2 es1 (SetTable.grown es1.size)).2.1
            pure (some true)
          else pure (some true)) R E s := by
  refine wpAny_bind (wpAny_storeSet_of ho hd ?_ (fits_of_scanBound hb1))
  have ho1 := store_at (es' := es1) (t' := t2) ho hd
  have sb1 := Heap.SameBut.update s.heap a (Obj.putSet es1 t2)
  split
  · have pm := relayAll_perm t2 es1 (SetTable.grown es1.size)
    have hf3 := relayAll_fits t2 es1 (SetTable.grown es1.size)
    have hr3 := relayAll_ris t2 es1 (SetTable.grown es1.size)
    have hl3 := relayAll_led t2 es1 (SetTable.grown es1.size)
    generalize relayAll t2 es1 (SetTable.grown es1.size) = Z at pm hf3 hr3 hl3 ⊢
    obtain ⟨es2, t3, gave⟩ := Z
    dsimp only at pm hf3 hr3 hl3 ⊢
    have hsz : es2.size = es1.size := by rw [← Array.length_toList, pm.length_eq, Array.length_toList]
    have hb2 : es2.size < scanBound := by rw [hsz]; exact hb1
    refine wpAny_bind (hg _ _ _ ?_)
    refine wpAny_bind (wpAny_storeSet_of ho1 rfl ?_ (fits_of_scanBound hb2))
    have ho2 := store_at (es' := es2) (t' := t3) ho1 rfl
    refine wpAny_pure (hR _ (sb1.trans (Heap.SameBut.update _ a _)) ?_)
    exact ⟨_, es2, _, t3, ho2, hex, rfl, fun e he => g1 e (pm.mem_iff.mp he), (pm.map keyT).nodup_iff.mpr nd1, fun k => (m1 k).trans (pm.map keyT).mem_iff.symm, hb2, hf3, hsz, hr3,
      hl.imp id fun z => by rw [hl3]; exact z⟩
  · exact wpAny_pure (hR _ sb1 ⟨_, es1, _, t2, ho1, hex, rfl, g1, nd1, m1, hb1, hf2, rfl, hr, hl⟩)

theorem setT_add_hashed {k : Str} {tk : Tok} {Q : Bool → Shared → Prop} (R : SetTx w s.heap a S n) (room : n + 1 < scanBound)
    (hQ : ∀ h', Heap.SameBut a s.heap h' → SetTx w h' a (fun j => S j || decide (j = k)) (if S k = true then n else n + 1) → Q (!S k) { s with heap := h' }) :
    wpAny (model P w) A (setAddHashed a (.str k tk) ((PySem.strKind P w).hash k)) Q E s := by
  obtain ⟨o, es, ep, t, ho, hex, hd, g, nd, hm, hb, hf, hn, hr, hl⟩ := R
  have hkey : (PySem.strKind P w).is k (.str k tk) = true := PySem.strKind_is P w k tk
  have hsc : (Value.str k tk).scannable = true := rfl
  have hel : ElemsOf (PySem.strKind P w) es.toList := goodT_elems g
  unfold setAddHashed setAddHashedIn
  refine wpAny_holding (wpAny_bind (wpAny_setState_of ho hd hf ?_))
  dsimp only
  rw [byScan_of hsc hb hel]
  simp only [↓reduceIte]
  unfold setAddByScan
  refine wpAny_bind ?_
  refine wpAny_bind (wpAny_rule ?_)
  refine wpAny_bind (wpAny_setScan_of hkey ho hd hf hel ?_)
  cases hfi : List.findIdx? (fun e => (PySem.strKind P w).is k e.2) es.toList with
  | some j =>
    dsimp only
    obtain ⟨hj, pj, _⟩ := List.findIdx?_eq_some_iff_getElem.mp hfi
    have hSk : S k = true := (hm k).2 ((goodT_mem (P := P) (w := w) g k).2 ⟨es.toList[j], List.getElem_mem hj, pj⟩)
    refine wpAny_pure (wpAny_pure ?_)
    have q := hQ s.heap (Heap.SameBut.refl a s.heap) ⟨o, es, ep, t, ho, hex, hd, g, nd, fun i => by
      rw [Bool.or_eq_true, decide_eq_true_eq, ← hm i]
      exact ⟨fun z => z.elim id (fun e => e ▸ hSk), .inl⟩, hb, hf, by rw [if_pos hSk]; exact hn, hr, hl⟩
    rw [hSk] at q
    exact q
  | none =>
    dsimp only
    have hnk : k ∉ es.toList.map keyT := fun z => by
      obtain ⟨e, he, q⟩ := (goodT_mem (P := P) (w := w) g k).1 z
      have c := List.findIdx?_eq_none_iff.mp hfi e he
      rw [q] at c
      cases c
    have hSk : S k = false := by
      cases q : S k with
      | false => rfl
      | true => exact absurd ((hm k).1 q) hnk
    have hgw : ∀ (b : Bool) {s₁ : Shared} {Q' : Unit → Shared → Prop}, Q' () s₁ → wpAny (model P w) A (match b with | true => rule "set.scan.the-table-gave-way" | false => pure ()) Q' E s₁ :=
      fun b s₁ Q' q => by cases b <;> first | exact wpAny_pure q | exact wpAny_rule q
    have pm := layNew_perm t es ((PySem.strKind P w).hash k) (.str k tk)
    have hf1 := layNew_fits t es ((PySem.strKind P w).hash k) (.str k tk)
    have hr1 := layNew_ris t es ((PySem.strKind P w).hash k) (.str k tk) hr
    have hl1 := layNew_led t es ((PySem.strKind P w).hash k) (.str k tk)
    generalize layNew t es ((PySem.strKind P w).hash k) (.str k tk) = Z at pm hf1 hr1 hl1 ⊢
    obtain ⟨es1, t1, wasDummy, gave⟩ := Z
    dsimp only at pm hf1 hr1 hl1 ⊢
    rw [Array.toList_push] at pm
    have pc : es1.toList.Perm (((PySem.strKind P w).hash k, Value.str k tk) :: es.toList) := pm.trans (List.perm_append_singleton _ _)
    have pk : (es1.toList.map keyT).Perm (k :: es.toList.map keyT) := pc.map keyT
    have g1 : ∀ e ∈ es1.toList, GoodT w e := fun e he => by
      rcases List.mem_cons.mp (pc.mem_iff.mp he) with z | z
      · rw [z]; exact ⟨k, tk, rfl, rfl⟩
      · exact g e z
    have nd1 : (es1.toList.map keyT).Nodup := pk.nodup_iff.mpr (List.nodup_cons.mpr ⟨hnk, nd⟩)
    have m1 : ∀ i, (S i || decide (i = k)) = true ↔ i ∈ es1.toList.map keyT := fun i => by
      rw [Bool.or_eq_true, decide_eq_true_eq, hm i, pk.mem_iff, List.mem_cons]
      exact Or.comm
    have hsz : es1.size = n + 1 := by rw [← Array.length_toList, pc.length_eq, List.length_cons, Array.length_toList, hn]
    have hb1 : es1.size < scanBound := by rw [hsz]; exact room
    have hled : w.params.followText "set-order" = true ∨ t1.led = true := hl.imp id fun z => by rw [hl1]; exact z
    have fin : ∀ h', Heap.SameBut a s.heap h' → SetTx w h' a (fun j => S j || decide (j = k)) es1.size → Q true { s with heap := h' } := fun h' sb r => by
      have q := hQ h' sb
      rw [hSk] at q
      rw [hsz] at r
      exact q r
    refine wpAny_bind (hgw _ ?_)
    split
    · refine wpAny_bind ?_
      rw [hashByValue_scannable 8 hsc]
      refine wpAny_pure ?_
      refine setT_add_tail ?_ ho hex hd g1 nd1 m1 hb1 ?_ ?_ ?_ ?_
      · intro b s₁ Q' q; cases b <;> first | exact wpAny_pure q | exact wpAny_rule q
      · first | (split <;> first | exact hf1 | exact SetTable.fits_plain_off hf1) | exact hf1
      · first | (split <;> exact hr1) | exact hr1
      · first | (split <;> exact hled) | exact hled
      · intro h' sb r; dsimp only; exact wpAny_pure (fin h' sb r)
    · refine wpAny_bind (wpAny_pure ?_)
      simp only [↓reduceIte]
      refine setT_add_tail ?_ ho hex hd g1 nd1 m1 hb1 hf1 hr1 hled ?_
      · intro b s₁ Q' q; cases b <;> first | exact wpAny_pure q | exact wpAny_rule q
      · intro h' sb r; dsimp only; exact wpAny_pure (fin h' sb r)
end
theorem setT_new_at {w : World} {h : Heap} {a : Addr} {ns : List Str} (ho : h.get? a = some { cls := .type "set", dict := none, data := .set #[] 0 (.fresh 0 0 (!w.params.followText "set-order")) }) : SetTx w h a (fun j => decide (j ∈ ns.take 0)) 0 :=
  ⟨_, #[], 0, _, ho, ⟨rfl, rfl, rfl⟩, rfl, (fun e he => by simp at he), (by simp), (fun k => by simp), (by decide), (by rfl), rfl, List.Pairwise.nil, by
    show _ ∨ (!w.params.followText "set-order") = true
    cases w.params.followText "set-order"
    · exact .inr rfl
    · exact .inl rfl⟩
section
variable {P : Program} {w : World} {A : Around} {E : Value → Shared → Prop} {s : Shared}
theorem set_update_texts {I : Addr} {fp wr : List Addr} {G : Array GenState → Array GenState → Prop} {n : Nat} {Pv : Nat → Value → Prop} {St : Nat → Shared → Prop} {R : Result → Shared → Prop}
    (W : WalksS P w A.in1 I fp wr G n Pv St) (S : Addr) (hSf : S ∉ fp) (ns : List Str) (hn : n = ns.length) (hb : ns.length + 1 < scanBound) (hval : ∀ i v, Pv i v → ∃ k t, ns[i]? = some k ∧ v = .str k t) :
    ∀ (k i : Nat) (s : Shared), n - i = k → i ≤ n → St i s → (∃ c, c ≤ i ∧ SetTx w s.heap S (fun j => decide (j ∈ ns.take i)) c) →
      (∀ s' c, Moved (S :: wr) G s s' → c ≤ n → SetTx w s'.heap S (fun j => decide (j ∈ ns)) c → R (.ok (.ret .none)) s') →
      codeAny (model P w) A (.builtin "set.update.loop" ⟨[.ref S, .ref I], []⟩) R s := by
  have hSw : S ∉ wr := fun h => hSf (W.sub _ h)
  have hsub : ∀ b ∈ wr, b ∈ S :: wr := fun b hb => List.mem_cons_of_mem _ hb
  intro k
  induction k with
  | zero =>
    intro i s hk' hi hst ⟨c, hc, hS⟩ hR
    have hin : i = n := by omega
    subst hin
    refine codeAny_builtin F.entry_set_update_loop ?_
    rw [Around.under_plainId F.plain_set_update_loop _]
    show wpAny _ A.in1 (pyNext (.ref I) >>= _) _ _ s
    refine wpAny_bind (W.done s _ _ hst fun s' hm => ?_)
    show wpAny _ A.in1 (ret Value.none) _ _ s'
    have e : ns.take i = ns := List.take_of_length_le (by omega)
    rw [e] at hS
    exact wpAny_pure (hR s' c (hm.mono hsub) hc (hS.at fun o e => hm.heap S o hSw e))
  | succ k ih =>
    intro i s hk' hi hst ⟨c, hc, hS⟩ hR
    have hlt : i < n := by omega
    refine codeAny_builtin F.entry_set_update_loop ?_
    rw [Around.under_plainId F.plain_set_update_loop _]
    show wpAny _ A.in1 (pyNext (.ref I) >>= _) _ _ s
    refine wpAny_bind (W.item i s _ _ hlt hst fun v s' hP hst' hm => ?_)
    obtain ⟨z, t, hz, rfl⟩ := hval i v hP
    have hS' : SetTx w s'.heap S (fun j => decide (j ∈ ns.take i)) c := hS.at fun o e => hm.heap S o hSw e
    show wpAny _ A.in1 (holding [Value.str z t] (setAdd S (.str z t)) >>= _) _ _ s'
    refine wpAny_bind (wpAny_holding ?_)
    unfold setAdd
    refine wpAny_holding ?_
    refine wpAny_bind ((PySem.strKind P w).pyHash (k := z) (PySem.strKind_is _ _ _ _) ?_)
    refine setT_add_hashed (s := { s' with toks := s'.toks + 1 }) hS' (by omega) fun h' hsb hS2 => ?_
    have hS3 : SetTx w h' S (fun j => decide (j ∈ ns.take (i + 1))) (if decide (z ∈ ns.take i) = true then c else c + 1) := hS2.congr fun j => by
      rw [List.take_add_one, hz]
      simp [List.mem_append]
    have hc3 : (if decide (z ∈ ns.take i) = true then c else c + 1) ≤ i + 1 := by
      split <;> omega
    refine wpAny_pure ⟨plainId_quiet F.plain_set_update_loop _, ih (i + 1) _ (by omega) hlt (W.frame _ s' _ _ hst' (Nat.le_succ _) fun b hb o e => ?_) ⟨_, hc3, hS3⟩ fun s'' c2 hm'' hc'' hS'' => ?_⟩
    · rw [hsb.2 b (fun h : b = S => hSf (by rw [← h]; exact hb))]; exact e
    · refine hR s'' c2 (Moved.trans W.gtrans ((hm.mono hsub).then_heap (Nat.le_succ _) fun b o hb e => ?_) hm'') hc'' hS''
      rw [hsb.2 b (fun h : b = S => hb (by rw [h]; exact List.mem_cons_self))]; exact e

set_option maxRecDepth 100000 in
set_option maxHeartbeats 3200000 in
theorem call_set_lstT {l : Addr} {items : Array Value} (ns : List Str) {Q : Value → Shared → Prop} (hh : A.handled = none) (hl : s.heap.IsList l items) (hit : StrsAre items.toList ns) (hb : ns.length + 1 < scanBound)
    (h : ∀ (h' : Heap) (tk c : Nat), SetTx w h' s.heap.objs.size (fun j => decide (j ∈ ns)) c → c ≤ ns.length → (∀ b o, s.heap.get? b = some o → h'.get? b = some o) → Q (.ref s.heap.objs.size) { s with heap := h', toks := tk }) :
    wpAny (model P w) A (call (.type "set") [.ref l]) Q E s := by
  have hisz : items.size = ns.length := by
    have q := StrsAre.len_eq hit
    rw [Array.length_toList] at q
    exact q
  obtain ⟨c, tl, hmro⟩ := F.called_set.mro
  have hmade := F.called_set.made
  have hsub := F.called_set.sub
  refine wpAny_call (codeAny_of_tree ?_)
  show wpAny _ _ (callAny (.type "set") _) _ _ _
  refine wpAny_pure ⟨Code.quiet_builtin _ (by decide +kernel), codeAny_builtin F.entry_type_call ?_⟩
  rw [Around.under_plain (weight_type_call_type "set" [.ref l] []) rfl]
  have h1 := F.called_set.notType
  have h2 := F.called_set.canCreate
  have hct := F.typeCall_set_1 (.ref l)
  repeat (any_goals (first | assumption | wp_step))

  refine codeAny_mono (code_set_led1 (.ref l) (E := E) (Q₁ := fun obj s₁ => obj = .ref s.heap.objs.size ∧ s₁ = { s with heap := s.heap.push { cls := .type "set", dict := none, data := .set #[] 0 (.fresh 0 0 (!w.params.followText "set-order")) } }) ⟨rfl, rfl⟩) fun r s₁ hr => ?_
  cases r with
  | error e => exact hr
  | ok fl =>
    cases fl with
    | ret obj =>
      obtain ⟨rfl, rfl⟩ := hr
      have hS : (s.heap.push { cls := .type "set", dict := none, data := .set #[] 0 (.fresh 0 0 (!w.params.followText "set-order")) }).get? s.heap.objs.size = some { cls := .type "set", dict := none, data := .set #[] 0 (.fresh 0 0 (!w.params.followText "set-order")) } := Heap.get?_push_size _ rfl
      have hT : Shared.TypeIs { s with heap := s.heap.push { cls := .type "set", dict := none, data := .set #[] 0 (.fresh 0 0 (!w.params.followText "set-order")) } } (.ref s.heap.objs.size) "set" := ⟨_, hS, rfl⟩
      have hli := F.called_set.init.lookup
      have hbi := F.called_set.init.bind (.ref s.heap.objs.size)
      repeat (any_goals (first | assumption | wp_step))

      refine codeAny_mono (codeAny_call_builtin (R := wants (fun r s₂ => r = .none ∧ ∃ h' tk c, s₂ = { s with heap := h', toks := tk } ∧ SetTx w h' s.heap.objs.size (fun j => decide (j ∈ ns)) c ∧ c ≤ ns.length ∧
          (∀ b o, s.heap.get? b = some o → h'.get? b = some o)) E) F.called_set.init.plain F.entry_set_init (check_set_init_1 hT ?_)) fun r₂ s₂ hr₂ => ?_
      · obtain ⟨ol, hol, hcl, nl, hdl⟩ := hl
        obtain ⟨ocls, odict, odata, oslots⟩ := ol
        simp only at hcl hdl
        subst hcl; subst hdl
        have hol' : (s.heap.push { cls := .type "set", dict := none, data := .set #[] 0 (.fresh 0 0 (!w.params.followText "set-order")) }).get? l = some { cls := .type "list", dict := odict, data := .seq items nl, slots := oslots } := Heap.get?_push_of_some _ hol
        have hsls := F.sub_list_set
        have hslf := F.sub_list_frozenset
        have hne : (Value.type "list" == Value.type "dict") = false := by decide
        have hl1 : (s.heap.push { cls := .type "set", dict := none, data := .set #[] 0 (.fresh 0 0 (!w.params.followText "set-order")) }).IsList l items := ⟨_, hol', rfl, nl, rfl⟩
        unfold Builtin.«set.__init__» noKeywords Builtin.Frozenset.updateFrom
        generalize hPI : pyIter = PI
        wp_walk
        subst hPI

        refine wpAny_pyIter_list hl1 ?_
        refine wpAny_bind (wpAny_runValue ?_)
        have hlS : l < s.heap.objs.size := Heap.lt_size hol
        have hh3 : A.in1.in1.in1.handled = none := by simp [hh]
        have hz1 : (s.heap.push { cls := .type "set", dict := none, data := .set #[] 0 (.fresh 0 0 (!w.params.followText "set-order")) }).objs.size = s.heap.objs.size + 1 := Heap.size_push ..
        have hneI : l ≠ (s.heap.push { cls := .type "set", dict := none, data := .set #[] 0 (.fresh 0 0 (!w.params.followText "set-order")) }).objs.size := by
          rw [Heap.size_push]; exact Nat.ne_of_lt (Nat.lt_succ_of_lt hlS)
        have hSf : s.heap.objs.size ∉ [(s.heap.push { cls := .type "set", dict := none, data := .set #[] 0 (.fresh 0 0 (!w.params.followText "set-order")) }).objs.size, l] := by
          rw [Heap.size_push]; simp only [List.mem_cons, List.mem_singleton, List.not_mem_nil, or_false, not_or]
          exact ⟨Nat.ne_of_lt (Nat.lt_succ_self _), Nat.ne_of_gt hlS⟩
        have hval : ∀ (i : Nat) (v : Value), items[i]? = some v → ∃ k t, ns[i]? = some k ∧ v = .str k t := fun i v hv => by
          have hi : i < ns.length := by rw [← hisz]; exact (Array.getElem?_eq_some_iff.mp hv).1
          obtain ⟨t, e⟩ := SS.strs_at hit i v (by rw [Array.getElem?_toList]; exact hv)
          refine ⟨ns[i], t, List.getElem?_eq_getElem hi, ?_⟩
          rw [e, List.getD_eq_getElem?_getD, List.getElem?_eq_getElem hi] <;> rfl
        refine set_update_texts ((Walks.list hh3 _ l hneI items).toS) s.heap.objs.size
          hSf ns hisz hb hval (items.size - 0) 0 _ (by omega) (Nat.zero_le _)
          ⟨⟨_, Heap.get?_push_size _ rfl, rfl, rfl⟩, (hl1.push _)⟩ ?hS0 ?hR
        case hS0 =>
          have hget : ((s.heap.push { cls := .type "set", dict := none, data := .set #[] 0 (.fresh 0 0 (!w.params.followText "set-order")) }).push { cls := .type "list_iterator", data := .fields #[.ref l, .int 0 0] }).get? s.heap.objs.size
              = some { cls := .type "set", dict := none, data := .set #[] 0 (.fresh 0 0 (!w.params.followText "set-order")) } := Heap.get?_push_of_some _ hS
          exact ⟨0, Nat.le_refl 0, setT_new_at hget⟩
        case hR =>
          intro s' c' hm hc' hS'
          obtain ⟨h', g2, d', tk', os'⟩ := s'
          have eg : g2 = s.gens := hm.gens
          have ed : d' = s.drawn := hm.drawn
          have eo : os' = s.os := hm.os
          subst eg; subst ed; subst eo
          show wpAny _ _ _ _ _ _
          refine wpAny_pure ?_
          show wpAny _ _ (ret Value.none) _ _ _
          rw [hisz] at hc'
          refine wpAny_pure ⟨rfl, h', tk', c', rfl, hS', hc', fun b o e => ?_⟩
          have hb0 : b < s.heap.objs.size := Heap.lt_size e
          have hb1 : b ≠ s.heap.objs.size := Nat.ne_of_lt hb0
          have hb2 : b ≠ (s.heap.push { cls := .type "set", dict := none, data := .set #[] 0 (.fresh 0 0 (!w.params.followText "set-order")) }).objs.size := by
            rw [Heap.size_push]; exact Nat.ne_of_lt (Nat.lt_succ_of_lt hb0)
          exact hm.heap b o (by simp only [List.mem_cons, List.mem_singleton, List.not_mem_nil, or_false, not_or]; exact ⟨hb1, hb2⟩) (Heap.get?_push_of_some _ (Heap.get?_push_of_some _ e))

      · cases r₂ with
        | error e => exact hr₂
        | ok fl₂ =>
          cases fl₂ with
          | ret r =>
            obtain ⟨rfl, h', tk, c', rfl, hS', hc', hk'⟩ := hr₂
            repeat (any_goals (first | assumption | wp_step))
            exact h _ _ _ hS' hc' hk'
          | _ => exact hr₂.elim
    | _ => exact hr.elim
end

section
variable {P : Program} {w : World} {A : Around} {E : Value → Shared → Prop} {s : Shared} {a : Addr}
theorem texts_of : ∀ (l : List Value), (∀ v ∈ l, ∃ k tk, v = Value.str k tk) → StrsAre l (l.map strOf)
  | [], _ => .nil
  | v :: l, h => by
    obtain ⟨k, tk, rfl⟩ := h v List.mem_cons_self
    exact .cons k tk (texts_of l fun u hu => h u (List.mem_cons_of_mem _ hu))
theorem sorted_setT {S : Str → Bool} {n : Nat} {Q : Value → Shared → Prop} (R : SetTx w s.heap a S n) (hh : A.handled = none) (h64 : n < 64)
    (hQ : ∀ s' p (out : Array Value) (c : Nat) (ns : List Str), (∀ b o, s.heap.get? b = some o → s'.heap.get? b = some o) → s'.gens = s.gens → s'.os = s.os → s.heap.objs.size ≤ p →
      s'.heap.get? p = some (seqObj "list" out c) → StrsAre out.toList ns → sortedS ns = true → ns.Nodup → (∀ k, k ∈ ns ↔ S k = true) → ns.length = n → Q (.ref p) s') :
    wpAny (model P w) A (call (.builtin "sorted") [.ref a]) Q E s := by
  obtain ⟨o, es, ep, t, ho, hex, hd, g, nd, hm, hb, hf, hn, hr, hl⟩ := R
  refine Calls.call_function_entry kind_sorted plain_sorted entry_sorted (args_sorted1 _) ?_
  unfold Builtin.«sorted»
  refine wpAny_bind (m := checkCount "sorted" 1 1 _) (wpAny_pure ?_)
  refine wpAny_bind (collect_set (A := A.in1) hh ⟨o, ho, hex.1, hd⟩ hf hb hr hl fun s1 vs k1 hz g1 o1 pm => ?_)
  have hvl : vs.length = n := by rw [pm.length_eq, List.length_map, Array.length_toList]; exact hn
  have hI : StrsAre vs (vs.map strOf) := texts_of vs fun v hv => by
    obtain ⟨e, he, q⟩ := List.mem_map.mp (pm.mem_iff.mp hv)
    obtain ⟨k, tk, h1, _⟩ := g e he
    exact ⟨k, tk, by rw [← q]; exact h1⟩
  have pk : (vs.map strOf).Perm (es.toList.map keyT) := by
    have q := pm.map strOf
    rw [List.map_map] at q
    refine q.trans (List.Perm.of_eq (List.map_congr_left fun e he => ?_))
    obtain ⟨k, tk, h1, _⟩ := g e he
    show strOf e.2 = keyT e
    unfold keyT
    rw [h1]; rfl
  refine wpAny_bind (wpAny_newList ?_ (by rw [hvl, sizeLine_eq]; omega))
  have hoL : (s1.heap.push (seqObj "list" vs.toArray 0)).get? s1.heap.objs.size = some (seqObj "list" vs.toArray 0) := Heap.get?_push_size _ rfl
  refine wpAny_bind (wpAny_holding (wpAny_call_entry slot_list_sort ⟨_, hoL, rfl⟩ entry_list_sort (list_sort_treeK (κ := PyProof.Rows.strKind) strKind_oneLt hoL hI.keysOf (fun v₁ v₂ rest e => keyKind_strs (by rw [← e]; exact hI)) (by rw [hvl]; exact h64) fun st' a1 a2 => ⟨_, rfl, ?_⟩) (args_list_sort _)))
  obtain ⟨ns', h1, h2, h3⟩ := sorted_out_str hI a1 a2
  obtain ⟨c, hc⟩ := sortedHeap_at (vs := vs) (out := (arrOf st').map (·.2)) hoL
  have pn : ns'.Perm (es.toList.map keyT) := h2.trans pk
  refine wpAny_pure ⟨_, rfl, hQ _ s1.heap.objs.size _ c ns' (fun b u e => ?_) g1 o1 hz hc h1 h3 (pn.nodup_iff.mpr nd) (fun k => by rw [pn.mem_iff, ← hm k]) ?_⟩
  · have q := k1 b u e
    have hlt := Heap.lt_size q
    show (sortedHeap (s1.heap.push (seqObj "list" vs.toArray 0)) s1.heap.objs.size vs _).get? b = some u
    rw [sortedHeap_old (Nat.ne_of_lt hlt) (by rw [size_push']; exact Nat.lt_succ_of_lt hlt)]
    exact Heap.get?_push_of_some _ q
  · rw [pn.length_eq, List.length_map, Array.length_toList]; exact hn
end
section
variable {X : Cx} {T : Tb} {W : WX} {pos : Pos}
def tSortSet (K : PySem.W.Frag) (ta : TE) : TE := fun σ H Q => ta σ H fun x H1 => ∃ l, ∃ xs : List Str, x = .ref l ∧ SqL K H1 l (xs.map V.str) ∧ xs.length < 64 ∧
  ∀ (ys : List Str) (p : Addr), sortedS ys = true → ys.Nodup → (∀ k, k ∈ ys ↔ k ∈ xs) → H1 p = none → Q (.ref p) (upd H1 p (.lst (ys.map V.str)))
theorem pe_sortSet {a : Expr} {ta : TE} {p p2 q pos : Pos} (hc : X.calm = true) (hg : Gl X "sorted") (hm : X.mg "sorted" = none) (hg2 : Gl X "set") (hm2 : X.mg "set" = none) (ha : PE X a ta)
    (na : starEach [a] X.env = (false, eval a X.env) :: starEach [] X.env := by rfl) : PE X (.Call (.Name "sorted" p) [.Call (.Name "set" p2) [a] [] q] [] pos) (tSortSet X.K ta) := by
  refine ⟨fun pins s σ H Q I h => ?_⟩
  refine Call_ (ld_blt I hg hm boot_sorted ?_)
  refine PyProof.Rows.callWith_builtin1 (PyProof.Rows.args_cons ?_ rfl) rfl rfl
  refine Call_ (ld_blt I hg2 hm2 boot_set ?_)
  refine PyProof.Rows.callWith_type1 (PyProof.Rows.args_cons (thn (ha.run pins s σ H _ I h) fun v s1 ⟨x, H1, I1, r1, q1⟩ => PyProof.Rows.args_nil ?_) na) na rfl
  obtain ⟨l, xs, rfl, hq, h64, q1⟩ := q1
  cases r1
  obtain ⟨its, r, pl, hz⟩ := I1.list hq
  have hit := strsAre_of r
  refine call_set_lstT xs (I1.ok.hd hc) pl.isList (by simpa using hit) (by unfold scanBound; omega) fun h' tk c hS hcl hk => ?_
  refine PyProof.Rows.args_nil ?_
  have I2 : Inv X pins σ H1 { s1 with heap := h', toks := tk } := I1.kept fun b o e => hk b o e
  refine sorted_setT hS (I2.ok.hd hc) (by omega) fun s' p out c2 ns k g o hp hg hi hs hnd hm hl => ?_
  have hlen : (ns.map V.str).length ≤ sizeLine := by rw [List.length_map, hl, sizeLine_eq]; omega
  have hn : H1 p = none := I2.hok.fresh hp
  have J : Inv X pins σ (upd H1 p (.lst (ns.map V.str))) { ({ s1 with heap := h', toks := tk } : Shared) with heap := s'.heap, gens := s'.gens, drawn := s'.drawn, toks := s'.toks } :=
    I2.call (ch := []) (Un.laid k hp hn) (I2.hok.laid k hp ⟨hlen, out.toList, c2, vals_of_strs hi, hg⟩) (by rw [g]; exact I2.bare) (fun _ z => nomatch z)
  have e : s' = { s1 with heap := s'.heap, gens := s'.gens, drawn := s'.drawn, toks := s'.toks } := by
    cases s'
    cases s1
    cases o
    rfl
  rw [e]
  exact ⟨.ref p, _, J, rfl, q1 ns p hs hnd (fun k => by rw [hm k, decide_eq_true_eq]) hn⟩
/-- sorted(set(xs)), texts -/
def aSortSet (a : AE) : AE := fun E es S R => a E es S fun x S1 => match x with
  | .ref p => ∃ ks : List Str, S1 p = some (.lst (ks.map .str)) ∧ ks.length < 64 ∧
      ∀ (ys : List Str) (q : Addr), sortedS ys = true → ys.Nodup → (∀ k, k ∈ ys ↔ k ∈ ks) → S1 q = none → R (.ref q) (ups S1 q (.lst (ys.map .str)))
  | _ => False
theorem ie_sortSet {a : Expr} {aa : AE} {p p2 q : Pos} (hc : X.calm = true) (hg : Gl X "sorted") (hm : X.mg "sorted" = none) (hg2 : Gl X "set") (hm2 : X.mg "set" = none) (ha : IE X T W a aa)
    (na : starEach [a] X.env = (false, eval a X.env) :: starEach [] X.env := by rfl) : IE X T W (.Call (.Name "sorted" p) [.Call (.Name "set" p2) [a] [] q] [] pos) (aSortSet aa) :=
  ⟨pe_mono (pe_sortSet hc hg hm hg2 hm2 ha.r na) fun σ H Q h => by
    obtain ⟨es, S, E, R, er, sr, xr, h, k⟩ := h
    refine ⟨es, S, E, _, er, sr, xr, h, fun x S1 h1 H1 x' t1 s1 v1 => ?_⟩
    cases v1 with
    | ref b =>
      obtain ⟨ks, hS, hl, q⟩ := h1
      obtain ⟨zs, sq, r⟩ := CRep.sql s1 (.inl hS)
      rw [r.strs] at sq
      refine ⟨b, ks, rfl, sq, hl, fun ys p h1 h2 h3 hn => ?_⟩
      exact newLst s1 hn (vreps_strs ys) (fun p hp' => q ys p h1 h2 h3 hp') fun v S' hv H' v' t s vr => k v S' hv H' v' (t1.trans t) s vr
    | non => exact h1.elim
    | int i => exact h1.elim
    | str i => exact h1.elim
    | bl i => exact h1.elim
    | tup _ _ => exact h1.elim⟩
end

/-! ### repr of a bool -/
section
variable {X : Cx} {T : Tb}
def reprB (b : Bool) : Str := if b then "True" else "False"
theorem reprB_inj {a b : Bool} (h : reprB a = reprB b) : a = b := by
  revert h; cases a <;> cases b <;> decide
theorem reprB_eq (a b : Bool) : (reprB a == reprB b) = (a == b) := by
  cases a <;> cases b <;> decide
def reprBC : AC := fun xs S R => match xs with
  | [.bl b] => R (.str (reprB b)) S
  | _ => False
theorem call_repr_bool : CallR X (.builtin "repr") (fun xs H Q => ∃ b, xs = [.bl b] ∧ Q (.str (reprB b)) H) := by
  intro pins s σ H xs us Q I rv ⟨b, e, q⟩
  subst e
  cases rv with
  | cons a t =>
    cases a; cases t
    exact PySem.P.repr_of_bool ⟨.str _, H, I.tok _, ⟨_, rfl⟩, q⟩
theorem cA_reprB : CallR X (.builtin "repr") (lowC X.K T reprBC) := callA fun xs S R xs' H Q vx sr q k => by
  unfold reprBC at q
  split at q
  · cases vx with
    | cons v t =>
      cases v; cases t
      exact ⟨_, call_repr_bool, _, rfl, k _ _ q H _ (.refl H) sr (.str _)⟩
  · exact q.elim
end
end A3

/-! ### repr of data -/
namespace A3
open PySem PySem.Spec PyProof.Rows L2
/-- data that repr tells at once -/
def tellable (d : PyData) : Bool := d.showable && !d.hasDict && decide (d.depth ≤ 128) && decide (d.shown.length ≤ sizeLine)
def reprDC : AC := fun xs S R => match xs with
  | [x] => ∃ d, DRel S x d ∧ tellable d = true ∧ R (.str d.shown) S
  | _ => False
section
variable {X : Cx} {T : Tb} {k : Nat}
theorem call_repr_D (hr : A3.Room k X.A) : CallR X (.builtin "repr") (fun xs H Q => ∃ x d, xs = [x] ∧ Dp X.K H x d ∧ tellable d = true ∧ Q (.str d.shown) H) := by
  intro pins s σ H xs us Q I rv ⟨x, d, e, hd, ok, q⟩
  subst e
  cases rv with
  | cons rx t =>
    rename_i u us'
    cases t
    simp only [tellable, Bool.and_eq_true, Bool.not_eq_true', decide_eq_true_eq] at ok
    obtain ⟨⟨⟨sh, nd⟩, dp⟩, sz⟩ := ok
    have wd := hr.wide
    have fin : ∀ tk, EP X pins σ Q (.str d.shown s.toks) { s with toks := tk } := fun tk => ⟨.str _, H, I.tok _, ⟨_, rfl⟩, q⟩
    obtain ⟨as, r⟩ := Dp.reads I d x u hd rx
    have ref : ∀ a, u = .ref a → wpAny (model X.prog X.w) X.A (call (.builtin "repr") [u]) (EP X pins σ Q) X.xe s := fun a ea => by
      subst ea
      exact PySem.repr_of_reads' r sh (fun h => by rw [nd] at h; cases h) hr.quiet (by omega) (fun _ _ e => e) (fun h' u tk kp => ⟨.str d.shown, H, I.kept kp, ⟨_, rfl⟩, q⟩) sz
    cases r with
    | none => exact PySem.P.repr_of_none (fin _)
    | bool b => exact PySem.P.repr_of_bool (fin _)
    | int i t => exact PySem.P.repr_of_int (by simpa [PyData.showable] using sh) (fin _)
    | str x t => exact PySem.P.repr_of_str (fin _) sz
    | list => exact ref _ rfl
    | tuple => exact ref _ rfl
    | dict => exact ref _ rfl
theorem cA_reprD (hr : A3.Room k X.A) : CallR X (.builtin "repr") (lowC X.K T reprDC) := callA fun xs S R xs' H Q vx sr q kq => by
  unfold reprDC at q
  split at q
  · obtain ⟨d, hd, ok, q⟩ := q
    cases vx with
    | cons v t =>
      cases t
      exact ⟨_, call_repr_D hr, _, d, rfl, DRel.dp sr hd v, ok, kq _ _ q H _ (.refl H) sr (.str _)⟩
  · exact q.elim
end
end A3

set_option Elab.async false
set_option linter.all false
set_option maxRecDepth 100000
set_option maxHeartbeats 4000000
/-! t[::-1] of a tuple (a new one, with its object), list(text), tuple * int. -/
namespace A3
open PySem PySem.Spec PyProof.Rows L2 HT
section
variable {prog : Program} {w : World} {A : Around} {E : Value → Shared → Prop} {s : Shared}
theorem fm_congr {α β : Type} {f g : α → Option β} : ∀ {l : List α}, (∀ a ∈ l, f a = g a) → l.filterMap f = l.filterMap g
  | [], _ => rfl
  | a :: l, h => by
    rw [List.filterMap_cons, List.filterMap_cons, h a List.mem_cons_self, fm_congr fun b hb => h b (List.mem_cons_of_mem _ hb)]
theorem rev_pick (xs : Array Value) : ((List.range xs.size).filterMap fun (k : Nat) => xs[(((xs.size : Int) - 1) + (k : Int) * (-1)).toNat]?) = xs.toList.reverse := by
  have e : ∀ k ∈ List.range xs.size, (fun (k : Nat) => xs[(((xs.size : Int) - 1) + (k : Int) * (-1)).toNat]?) k = (fun k => some (xs.toList.reverse.getD k .none)) k := by
    intro k hk
    have h := List.mem_range.mp hk
    have h1 : (((xs.size : Int) - 1) + (k : Int) * (-1)).toNat = xs.size - 1 - k := by omega
    have h2 : k < xs.toList.reverse.length := by simpa using h
    show xs[_]? = some _
    rw [h1, List.getD_eq_getElem?_getD, List.getElem?_eq_getElem h2, List.getElem_reverse]
    rw [Array.getElem?_eq_getElem (by omega)]
    simp
  rw [fm_congr e]
  have : (fun k => some (xs.toList.reverse.getD k Value.none)) = some ∘ fun k => xs.toList.reverse.getD k .none := rfl
  rw [this, List.filterMap_eq_map]
  apply List.ext_getElem
  · simp
  · intro i h1 h2
    have h3 : i < xs.toList.reverse.length := h2
    rw [List.getElem_map, List.getElem_range, List.getD_eq_getElem?_getD, List.getElem?_eq_getElem h3]
    rfl
theorem sliceApplied_rev {sl : Addr} {vl vu vs : Value} {n : Nat} {Q : Int × Int × Nat → Shared → Prop} (hs : s.heap.IsSliceOf sl vl vu vs) (pl : IsPart vl none) (pu : IsPart vu none) (ps : IsPart vs (some (-1)))
    (h : Q ((n : Int) - 1, -1, n) s) : wpAny (model prog w) A (Builtin.Slice.sliceApplied (.ref sl) (pure (n : Int))) Q E s := by
  obtain ⟨os, hos, hcs, hds⟩ := id hs
  unfold Builtin.Slice.sliceApplied Builtin.Slice.sliceFields
  refine wpAny_bind (wpAny_bind (wpAny_field hos hds (x := vl) rfl (wpAny_bind (wpAny_field hos hds (x := vu) rfl (wpAny_bind (wpAny_field hos hds (x := vs) rfl (wpAny_pure ?_)))))))
  refine wpAny_bind (slicePart_ ps ?_)
  show wpAny _ _ (if ((-1 : Int) == 0) = true then _ else _) _ _ s
  rw [if_neg (by decide)]
  refine wpAny_bind (slicePart_ pl (wpAny_bind (slicePart_ pu (wpAny_bind (wpAny_pure ?_)))))
  have ea : Builtin.Slice.sliceAdjust none none (-1) (n : Int) = ((n : Int) - 1, -1) := by
    unfold Builtin.Slice.sliceAdjust
    simp
  have ep : Builtin.Slice.slicePlaces ((n : Int) - 1) (-1) (-1) = n := by
    unfold Builtin.Slice.slicePlaces
    have h1 : ¬ ((-1 : Int) > 0) := by omega
    have h2 : -(-1 : Int) = 1 := by decide
    simp only [h1, if_false, h2, Int.ediv_one]
    split <;> omega
  show wpAny _ _ (match Builtin.Slice.sliceAdjust none none (-1) (n : Int) with | (lo, hi) => pure (lo, (-1 : Int), Builtin.Slice.slicePlaces lo hi (-1))) _ _ s
  rw [ea]
  show wpAny _ _ (pure (((n : Int) - 1), (-1 : Int), Builtin.Slice.slicePlaces ((n : Int) - 1) (-1) (-1))) _ _ s
  rw [ep]
  exact wpAny_pure h
theorem getItem_tuple_rev {t sl : Addr} {items : Array Value} {vl vu vs : Value} {Q : Value → Shared → Prop} (ht : IsTup s.heap t items) (hs : s.heap.IsSliceOf sl vl vu vs) (pl : IsPart vl none) (pu : IsPart vu none) (ps : IsPart vs (some (-1)))
    (h : Q (.ref s.heap.objs.size) { s with heap := s.heap.push { cls := .type "tuple", data := .seq items.toList.reverse.toArray } })
    (hsz : items.size ≤ sizeLine) : wpAny (model prog w) A (getItem (.ref t) (.ref sl)) Q E s := by
  have htake : sizeOk (.seq items.toList.reverse.toArray) := by
    show items.toList.reverse.toArray.size ≤ sizeLine
    simpa using hsz
  obtain ⟨os, hos, hcs, hds⟩ := id hs
  have hTs : s.TypeIs (.ref sl) "slice" := ⟨os, hos, hcs⟩
  unfold getItem
  try with_reducible refine wpAny_holding ?_
  first | refine wpAny_bind (wpAny_pure ?_) | skip
  refine wpAny_bind (wpAny_sequenceKey ht.typeIs (by decide) ?_)
  refine wpAny_bind (wpAny_callSpecial?_slot (name := Str.ofString "__getitem__") ht.typeIs PyProof.Rows.slot_tuple_getitem
    (wpAny_call_entry PyProof.Rows.slot_tuple_getitem ht.typeIs entry_tuple_getitem ?_ (args_tuple_getitem _ _)))
  show wpAny _ _ (Builtin.Tuple.tupleItemsOf (.ref t) >>= _) _ _ s
  refine wpAny_bind (tupleItemsOf_ ht ?_)
  refine wpAny_bind (wpAny_typeOf hTs ?_)
  rw [if_pos (by decide)]
  refine wpAny_bind (sliceApplied_rev hs pl pu ps ?_)
  have hno : ¬ ((((items.size : Int) - 1) == 0 && (-1 : Int) == 1 && items.size == items.size) = true) := by
    intro q
    rw [Bool.and_eq_true, Bool.and_eq_true] at q
    exact absurd q.1.2 (by decide)
  show wpAny _ _ (if (((items.size : Int) - 1) == 0 && (-1 : Int) == 1 && items.size == items.size) = true then _ else _) _ _ s
  rw [if_neg hno, rev_pick]
  first
    | exact wpAny_bind (m := Builtin.Tuple.tupleExact _) (wpAny_newObj_type (wpAny_pure ⟨_, rfl, wpAny_pure h⟩) htake)
    | exact wpAny_bind (m := Builtin.Tuple.tupleExact _) (wpAny_newObj_type (wpAny_bind (wpAny_pure (wpAny_pure ⟨_, rfl, wpAny_pure h⟩))) htake)
    | exact wpAny_bind (wpAny_bind (m := Builtin.Tuple.tupleExact _) (wpAny_newObj_type (wpAny_pure (wpAny_pure ⟨_, rfl, wpAny_pure h⟩)) htake))
    | exact wpAny_bind (wpAny_bind (m := Builtin.Tuple.tupleExact _) (wpAny_newObj_type (wpAny_pure ⟨_, rfl, wpAny_pure h⟩) htake))
end
section
variable {X : Cx} {T : Tb} {W : WX} {pos : Pos}
def tRevT (K : PySem.W.Frag) (te : TE) : TE := fun σ H Q => te σ H fun x H1 => ∃ a xs, x = .ref a ∧ SqT K H1 a xs ∧ ∀ (p : Addr) (o : Obj), o.dict = none → H1 p = none → Q (.ref p) (upd H1 p (.frz o (.tup xs.reverse)))
theorem pe_revT {e : Expr} {te : TE} {k : Nat} {p1 p2 p3 pos : Pos} (he : PE X e te) : PE X (.Subscript e (.Slice none none (some (.UnaryOp .USub (.Constant (.int 1) k p1) p2)) p3) pos) (tRevT X.K te) := by
  refine ⟨fun pins s σ H Q I h => ?_⟩
  refine Subscript_ (thn (he.run pins s σ H _ I h) fun v s1 ⟨x, H1, I1, r1, q1⟩ => ?_)
  obtain ⟨a, xs, ex, hx, q⟩ := q1
  subst ex
  cases r1
  have hst : PO X (some (.UnaryOp .USub (.Constant (.int 1) k p1) p2)) (tPart (tUn (rU fun i => .int (-i)) (tC (.int 1)))) := po_some (pe_un un_neg pe_int)
  refine wpAny_Slice (thn (po_none.run pins s1 σ H1 (fun o H2 => o = none ∧ H2 = H1) I1 ⟨rfl, rfl⟩) fun vl s2 ⟨l, H2, I2, pl, el, e2⟩ => ?_)
  subst el e2
  refine thn (po_none.run pins s2 σ H2 (fun o H3 => o = none ∧ H3 = H2) I2 ⟨rfl, rfl⟩) fun vu s3 ⟨u, H3, I3, pu, eu, e3⟩ => ?_
  subst eu e3
  refine thn (hst.run pins s3 σ H3 (fun o H4 => o = some (-1) ∧ H4 = H3) I3 ⟨1, rfl, -1, rfl, rfl, rfl⟩) fun vs s4 ⟨o, H4, I4, ps, eo, e4⟩ => ?_
  subst eo e4
  have I5 : Inv X pins σ H4 { s4 with heap := s4.heap.push { cls := .type "slice", data := .fields #[vl, vu, vs] } } := I4.kept (t' := s4.toks) fun b ob q => Heap.get?_push_of_some _ q
  obtain ⟨its, r, ht, hz⟩ := I5.tuple hx
  have hlen := r.length
  show wpAny (model X.prog X.w) X.A (subscriptTail e (.Slice none none (some (.UnaryOp .USub (.Constant (.int 1) k p1) p2)) p3) (.ref a) (.ref s4.heap.objs.size)) (EP X pins σ Q) X.xe { s4 with heap := s4.heap.push { cls := .type "slice", data := .fields #[vl, vu, vs] } }
  refine tail_any (ops := [.ref a, .ref s4.heap.objs.size]) ht.typeIs (PyProof.Rows.slot_tuple_getitem.lookup) ?_ (by with_unfolding_all rfl)
  refine getItem_tuple_rev ht (Heap.IsSliceOf.new _ vl vu vs) pl pu ps ?_ (by rw [List.size_toArray]; omega)
  refine ⟨.ref _, _, I5.laid (t' := s4.toks) (o := .frz { cls := .type "tuple", data := .seq its.toArray.toList.reverse.toArray } (.tup xs.reverse)) (fun b ob q => Heap.get?_push_of_some _ q) (Nat.le_refl _) ?_, rfl, q _ _ rfl (I5.hok.fresh (Nat.le_refl _))⟩
  exact ⟨Heap.get?_push_size _ rfl, by rw [List.length_reverse]; exact hz, _, r.reverse, IsTup.new _ _⟩
/-- t[::-1] of a tuple: a new one that bears no dict -/
def aRevF (a : AE) : AE := fun E es S R => a E es S fun x S1 => match x with
  | .tup xs => ∀ p, S1 p = none → R (.ref p) (ups S1 p (.ft xs.reverse))
  | _ => False
theorem ie_revF {e : Expr} {aa : AE} {k : Nat} {p1 p2 p3 pos : Pos} (h : IE X T W e aa) : IE X T W (.Subscript e (.Slice none none (some (.UnaryOp .USub (.Constant (.int 1) k p1) p2)) p3) pos) (aRevF aa) := ⟨pe_mono (pe_revT h.r) fun σ H Q h => by
  obtain ⟨es, S, E, R, er, sr, xr, h, k⟩ := h
  refine ⟨es, S, E, _, er, sr, xr, h, fun x S1 h1 H1 x' t1 s1 v1 => ?_⟩
  cases v1 with
  | tup hp r => exact ⟨_, _, rfl, .of hp, fun q ob hd hq => newFt s1 hq hd r.reverse h1 fun v S' hv H' v' t s r => k v S' hv H' v' (t1.trans t) s r⟩
  | ref a => exact h1.elim
  | non => exact h1.elim
  | int i => exact h1.elim
  | str i => exact h1.elim
  | bl i => exact h1.elim⟩
/-! ### list(text) -/
theorem call_list_text (hc : X.calm = true) : CallR X (.type "list") (fun xs H Q => ∃ z : Str, xs = [.str z] ∧ z.cps.size ≤ sizeLine ∧ ∀ p, H p = none → Q (.ref p) (upd H p (.lst (z.cps.toList.map fun c => .str ⟨#[c]⟩)))) := by
  intro pins s σ H xs us Q I rv ⟨z, e, hz, q⟩
  subst e
  cases rv with
  | cons a t =>
    cases t
    obtain ⟨t, rfl⟩ := a
    refine call_list_str (hn := hz) (I.ok.hd hc) z t fun h' tk acc c' hk e hi => ?_
    refine ⟨.ref s.heap.objs.size, upd H s.heap.objs.size (.lst (z.cps.toList.map fun c => .str ⟨#[c]⟩)), I.laid hk (Nat.le_refl _) ⟨by simpa using hz, acc.toList, c', ?_, by rw [Array.toArray_toList]; exact e⟩, rfl, q _ (I.hok.fresh (Nat.le_refl _))⟩
    refine vals_of_idx _ _ (by rw [List.length_map, Array.length_toList, Array.length_toList]; exact hi.1) fun j u hj => ?_
    obtain ⟨c, t', hc, rfl⟩ := hi.2 j u (by rw [← Array.getElem?_toList]; exact hj)
    exact ⟨.str ⟨#[c]⟩, by simp [hc], ⟨_, rfl⟩⟩
def listSC : AC := fun xs S R => match xs with
  | [.str z] => z.cps.size ≤ sizeLine ∧ ∀ p, S p = none → R (.ref p) (ups S p (.lst (signs z)))
  | _ => False
theorem vreps_signs {K : PySem.W.Frag} {H : Hp} : ∀ l : List Nat, VReps K H (l.map fun c => .str ⟨#[c]⟩) (l.map fun c => .str ⟨#[c]⟩)
  | [] => .nil
  | _ :: l => .cons (.str _) (vreps_signs l)
theorem cA_listS (hc : X.calm = true) : CallR X (.type "list") (lowC X.K T listSC) := callA fun xs S R xs' H Q vx sr q k => by
  unfold listSC at q
  split at q
  · cases vx with
    | cons v t =>
      cases v; cases t
      exact ⟨_, call_list_text hc, _, rfl, q.1, fun p hp => newLst sr hp (vreps_signs _) q.2 k⟩
  · exact q.elim
/-! ### tuple * int -/
def mulT : A2 := fun x y S R => match x, y with
  | .tup xs, .int j => xs ≠ [] ∧ 2 ≤ j ∧ j ≤ 1000 ∧ xs.length ≤ 1000 ∧ R (.tup (List.replicate j.toNat xs).flatten) S
  | _, _ => False
theorem oA_mulT : OpR X (binaryOp .Mult) (low2 X.K T mulT) := opA fun x y S R x' y' H Q vx vy sr q k => by
  cases vx with
  | @tup p xs xs' h1 r1 =>
    cases vy with
    | int j =>
      obtain ⟨h0, l1, l2, hz, q⟩ := q
      exact ⟨_, op_repT, p, j, xs', rfl, rfl, .of h1, fun e => (by subst e; cases r1; exact h0 rfl), l1, l2, r1.length ▸ hz, fun p hp => newTup sr hp (r1.rep _) q k⟩
    | _ => exact q.elim
  | _ => exact q.elim
end
/-! ### x in a list of data -/
section
variable {X : Cx} {T : Tb} {W : WX} {pos : Pos}
def notinD : A2 := fun x y S R => ∃ d ds, DRel S x d ∧ DRel S y (.list ds) ∧ SeqAt.shaped d = true ∧ SeqAt.shaped (.list ds) = true ∧ R (.bl (!ds.any fun z => PyData.eqv z d)) S
theorem oA_notinD (hu : X.A.units + 65 < cLine) : OpR X (compareOp .NotIn) (low2 X.K T notinD) := opA fun x y S R x' y' H Q vx vy sr q k => by
  obtain ⟨d, ds, h1, h2, h3, h4, q⟩ := q
  exact ⟨_, L2.op_notInD hu, d, ds, h1.dp sr vx, h2.dp sr vy, h3, h4, k _ _ q H _ (.refl H) sr (.bl _)⟩
end
theorem un65 {k : Nat} {A : Around} (r : Room k A) : A.units + 65 < cLine := by have := r.r.un; omega
/-! ### plain tools -/
section
variable {E : AX} {es : AEnv} {S : Store} {R : AK} {a : AE}
def kRevF : Val → Store → AK → Prop
  | .tup xs, S, R => ∀ p, S p = none → R (.ref p) (ups S p (.ft xs.reverse))
  | _, _, _ => False
theorem x_revF : aRevF a E es S R = a E es S fun x S1 => kRevF x S1 R := by
  unfold aRevF
  congr 1
  funext x S1
  cases x <;> rfl
theorem x_kRevF {xs : List Val} : kRevF (.tup xs) S R = ∀ p, S p = none → R (.ref p) (ups S p (.ft xs.reverse)) := rfl
def kSS : Val → Store → AK → Prop
  | .ref p, S, R => ∃ ks : List Str, S p = some (.lst (ks.map .str)) ∧ ks.length < 64 ∧
      ∀ (ys : List Str) (q : Addr), sortedS ys = true → ys.Nodup → (∀ k, k ∈ ys ↔ k ∈ ks) → S q = none → R (.ref q) (ups S q (.lst (ys.map .str)))
  | _, _, _ => False
theorem x_sortSet : aSortSet a E es S R = a E es S fun x S1 => kSS x S1 R := by
  unfold aSortSet
  congr 1
  funext x S1
  cases x <;> rfl
theorem x_reprB {b : Bool} : reprBC [.bl b] S R = R (.str (reprB b)) S := rfl
theorem x_listS {z : Str} : listSC [.str z] S R = (z.cps.size ≤ sizeLine ∧ ∀ p, S p = none → R (.ref p) (ups S p (.lst (signs z)))) := rfl
theorem x_mulT {xs : List Val} {j : Int} : mulT (.tup xs) (.int j) S R = (xs ≠ [] ∧ 2 ≤ j ∧ j ≤ 1000 ∧ xs.length ≤ 1000 ∧ R (.tup (List.replicate j.toNat xs).flatten) S) := rfl
end
end A3

set_option Elab.async false
set_option linter.all false
set_option maxRecDepth 100000
set_option maxHeartbeats 4000000
/-! t[::-1] of a tuple, as a plain tree. -/
namespace A3
open PySem PySem.Spec PyProof.Rows L2 HT
section
variable {X : Cx} {T : Tb} {W : WX} {pos : Pos}
theorem pe_revP {e : Expr} {te : TE} {k : Nat} {p1 p2 p3 pos : Pos} (he : PE X e te) : PE X (.Subscript e (.Slice none none (some (.UnaryOp .USub (.Constant (.int 1) k p1) p2)) p3) pos)
    (fun σ H Q => te σ H fun x H1 => ∃ a xs, x = .ref a ∧ SqT X.K H1 a xs ∧ ∀ p : Addr, H1 p = none → Q (.ref p) (upd H1 p (.tup xs.reverse))) := by
  refine ⟨fun pins s σ H Q I h => ?_⟩
  refine Subscript_ (thn (he.run pins s σ H _ I h) fun v s1 ⟨x, H1, I1, r1, q1⟩ => ?_)
  obtain ⟨a, xs, ex, hx, q⟩ := q1
  subst ex
  cases r1
  have hst : PO X (some (.UnaryOp .USub (.Constant (.int 1) k p1) p2)) (tPart (tUn (rU fun i => .int (-i)) (tC (.int 1)))) := po_some (pe_un un_neg pe_int)
  refine wpAny_Slice (thn (po_none.run pins s1 σ H1 (fun o H2 => o = none ∧ H2 = H1) I1 ⟨rfl, rfl⟩) fun vl s2 ⟨l, H2, I2, pl, el, e2⟩ => ?_)
  subst el e2
  refine thn (po_none.run pins s2 σ H2 (fun o H3 => o = none ∧ H3 = H2) I2 ⟨rfl, rfl⟩) fun vu s3 ⟨u, H3, I3, pu, eu, e3⟩ => ?_
  subst eu e3
  refine thn (hst.run pins s3 σ H3 (fun o H4 => o = some (-1) ∧ H4 = H3) I3 ⟨1, rfl, -1, rfl, rfl, rfl⟩) fun vs s4 ⟨o, H4, I4, ps, eo, e4⟩ => ?_
  subst eo e4
  have I5 : Inv X pins σ H4 { s4 with heap := s4.heap.push { cls := .type "slice", data := .fields #[vl, vu, vs] } } := I4.kept (t' := s4.toks) fun b ob q => Heap.get?_push_of_some _ q
  obtain ⟨its, r, ht, hz⟩ := I5.tuple hx
  have hlen := r.length
  show wpAny (model X.prog X.w) X.A (subscriptTail e (.Slice none none (some (.UnaryOp .USub (.Constant (.int 1) k p1) p2)) p3) (.ref a) (.ref s4.heap.objs.size)) (EP X pins σ Q) X.xe { s4 with heap := s4.heap.push { cls := .type "slice", data := .fields #[vl, vu, vs] } }
  refine tail_any (ops := [.ref a, .ref s4.heap.objs.size]) ht.typeIs (PyProof.Rows.slot_tuple_getitem.lookup) ?_ (by with_unfolding_all rfl)
  refine getItem_tuple_rev ht (Heap.IsSliceOf.new _ vl vu vs) pl pu ps ?_ (by rw [List.size_toArray]; omega)
  refine ⟨.ref _, _, I5.laid (t' := s4.toks) (o := .tup xs.reverse) (fun b ob q => Heap.get?_push_of_some _ q) (Nat.le_refl _) ?_, rfl, q _ (I5.hok.fresh (Nat.le_refl _))⟩
  exact ⟨by rw [List.length_reverse]; exact hz, _, r.reverse, IsTup.new _ _⟩
/-- t[::-1] of a tuple -/
def aRevP (a : AE) : AE := fun E es S R => a E es S fun x S1 => match x with
  | .tup xs => R (.tup xs.reverse) S1
  | _ => False
theorem ie_revP {e : Expr} {aa : AE} {k : Nat} {p1 p2 p3 pos : Pos} (h : IE X T W e aa) : IE X T W (.Subscript e (.Slice none none (some (.UnaryOp .USub (.Constant (.int 1) k p1) p2)) p3) pos) (aRevP aa) := ⟨pe_mono (pe_revP h.r) fun σ H Q h => by
  obtain ⟨es, S, E, R, er, sr, xr, h, k⟩ := h
  refine ⟨es, S, E, _, er, sr, xr, h, fun x S1 h1 H1 x' t1 s1 v1 => ?_⟩
  cases v1 with
  | tup hp r => exact ⟨_, _, rfl, .of hp, fun q hq => newTup s1 hq r.reverse h1 fun v S' hv H' v' t s r => k v S' hv H' v' (t1.trans t) s r⟩
  | ref a => exact h1.elim
  | non => exact h1.elim
  | int i => exact h1.elim
  | str i => exact h1.elim
  | bl i => exact h1.elim⟩
end
section
variable {E : AX} {es : AEnv} {S : Store} {R : AK} {a : AE}
def kRevP : Val → Store → AK → Prop
  | .tup xs, S, R => R (.tup xs.reverse) S
  | _, _, _ => False
theorem x_revP : aRevP a E es S R = a E es S fun x S1 => kRevP x S1 R := by
  unfold aRevP
  congr 1
  funext x S1
  cases x <;> rfl
theorem x_kRevP {xs : List Val} : kRevP (.tup xs) S R = R (.tup xs.reverse) S := rfl
end
end A3

set_option Elab.async false
set_option linter.all false
set_option maxRecDepth 100000
set_option maxHeartbeats 4000000
/-! A def within a def, handed to a def that calls it. -/
namespace A3
open PySem PySem.Spec PyProof.Rows L2 NdefX

/-! ### the statement -/
def sNdef (i : Nat) (mk : Addr → NF) : AS := fun D es S => ∀ f c', S f = none → f ≠ c' → (∀ c, S c' = some c → ∃ q e s, c = .clo q e s) → D.nx (es.set i (some (.ref f))) (ups S f (.nfn (mk c')))
def tNdefA (T : List NTab) (i : Nat) (mk : Addr → NF) : TS := fun D σ H => TabsN T H ∧ ∀ (f c' : Addr) (H1 : Hp), ExtN H H1 → TabsN T H1 → H f = none → f ≠ c' → H1 f = some (FnO f (mk c')) → H1 c' = some (CodeO c' (mk c').qual) → (∀ F, H1 c' ≠ some (FnO c' F)) → D.nx (σ.set i (some (.ref f))) H1
where
  ExtN := LamX.ExtN
  CodeO := LamX.CodeO
theorem ps_ndefA {X : Cx} {T : List NTab} {nm : Nat → Nat → Str} {c P : Addr} {name : Str} {params : Arguments} {body : List Stmt} {scope : Scope} {pos : Pos} {i : Nat} (TB : LamX.TabB X.base X.mg c P) (hcode : X.env.code = .ref c) (hm : (P, nm) ∈ T) (hn : nm pos.line pos.col = X.env.qual ++ name) (hu : ∀ p ∈ T, p.1 = P → p.2 = nm)
    (hfree : ∀ y ∈ scope.names, y.2 = .free → X.env.scope.names.lookup y.1 = some .cell ∨ X.env.scope.names.lookup y.1 = some .free) (hd0 : params.defaults = []) (hk0 : params.kw_defaults = []) (ha : annTrees params none X.env = [])
    (hN : X.N.Nodup) (hi : X.N[i]? = some name) (hx : Loc X.env.scope name) (hf : X.fn name = true ∨ X.env.scope.names.lookup name = some .local) :
    PS X (.FunctionDef name params body [] none [] scope none name pos) (tNdefA T i fun c' => ⟨name, X.env.qual ++ name, params, body, scope, cloFrom X.env.cells scope.names [], c'⟩) := by
  refine ⟨fun pins s σ H D I h => ?_⟩
  obtain ⟨hT, h⟩ := h
  have hq : qualnameIn X.env name name = X.env.qual ++ name := by
    have hk : X.env.kindOf name = some .local ∨ X.env.kindOf name = some .cell := hx
    unfold qualnameIn
    rcases hk with k | k <;> rw [k] <;> first | rfl | exact if_neg (by decide)
  refine PySem.W.nestDef_K hd0 hk0 ha ?_
  rw [hq]
  have hfr : ∀ y ∈ scope.names, y.2 = .free → ∃ c, X.env.cells.lookup y.1 = some c := fun y hy e => (hfree y hy e).elim (fun z => I.ok.has _ (.inl z)) fun z => I.ok.has _ (.inr z)
  refine ndef_make I TB hcode hm hn hu hT hfr fun f c' H1 s' I1 eN _ T1 f0 f1 c1 => ?_
  have nf : ∀ F, H1 c' ≠ some (FnO c' F) := fun F z => code_ne_fn I1.hok c1 (c1.symm.trans z)
  have ne : f ≠ c' := fun z => by
    subst z
    exact nf _ f1
  exact store_ok I1 hN hi hx (v := .ref f) rfl (fun s'' J => ⟨_, H1, J, h f c' H1 eN T1 f0 ne f1 c1 nf⟩) hf
theorem tabsN_of {T : Tb} {H : Hp} (h : LamX.Tabs T H) : TabsN (T.map fun p => (p.1, fun _ _ => p.2)) H := fun p hp => by
  obtain ⟨q, hq, rfl⟩ := List.mem_map.mp hp
  exact TabN.of (h q hq)
theorem tabsN_to {T : Tb} {H : Hp} (h : TabsN (T.map fun p => (p.1, fun _ _ => p.2)) H) : LamX.Tabs T H := fun p hp => TabN.to (h _ (List.mem_map.mpr ⟨p, hp, rfl⟩))
/-- cells stay where all but tables stays -/
theorem SRep.extN {K : PySem.W.Frag} {T : Tb} {S : Store} {H H1 : Hp} (sr : SRep K T S H) (eN : LamX.ExtN H H1) (T1 : LamX.Tabs T H1) : SRep K T S H1 := ⟨fun a c q => by
  have cr := sr.cell a c q
  obtain ⟨o, ho, _, _, h3⟩ := cr.there
  exact cr.stay (fun p ys q => eN p _ q (by simp)) (by rw [ho]; exact eN a o ho h3) fun b q e => eN b _ e (by simp [LamX.CodeO]), T1⟩
/-- what stands at a code object's place is told as one -/
theorem clo_at {K : PySem.W.Frag} {T : Tb} {S : Store} {H : Hp} {c' : Addr} {q : Str} (sr : SRep K T S H) (hco : H c' = some (LamX.CodeO c' q)) (nf : ∀ F, H c' ≠ some (FnO c' F)) : ∀ c, S c' = some c → ∃ q e s, c = .clo q e s := fun c hS => by
  have cr := sr.cell c' c hS
  cases c with
  | clo q e s => exact ⟨q, e, s, rfl⟩
  | lst xs => obtain ⟨_, e, _⟩ := cr; rw [hco] at e; simp [LamX.CodeO] at e
  | rd xs => obtain ⟨⟨_, _, e⟩, _⟩ := cr; rw [hco] at e; simp [LamX.CodeO] at e
  | ft xs => obtain ⟨_, _, e, _⟩ := cr; rw [hco] at e; simp [LamX.CodeO] at e
  | dk xs => obtain ⟨_, e, _⟩ := cr; rw [hco] at e; simp [LamX.CodeO] at e
  | dt xs => obtain ⟨_, e, _⟩ := cr; rw [hco] at e; simp [LamX.CodeO] at e
  | ins _ _ _ => obtain ⟨_, e, _⟩ := cr; rw [hco] at e; simp [LamX.CodeO] at e
  | xd _ => obtain ⟨_, e, _⟩ := cr; rw [hco] at e; simp [LamX.CodeO] at e
  | nfn F => exact absurd cr.1 (nf F)
section
variable {X : Cx} {T : Tb} {W : WX}
theorem is_ndef {st : Stmt} {q : Str} {c P : Addr} {name : Str} {pos : Pos} {i : Nat} (hst : st = .FunctionDef name (C8.fnArgs st) (C8.fnBody st) [] none [] (C8.fnScope st) none name pos) (TB : LamX.TabB X.base X.mg c P) (hcode : X.env.code = .ref c) (hq : X.env.qual ++ name = q) (hm : (P, q) ∈ T)
    (hu : ∀ p ∈ T, p.1 = P → p.2 = q) (hfree : ∀ y ∈ (C8.fnScope st).names, y.2 = .free → X.env.scope.names.lookup y.1 = some .cell ∨ X.env.scope.names.lookup y.1 = some .free) (hd0 : (C8.fnArgs st).defaults = []) (hk0 : (C8.fnArgs st).kw_defaults = []) (ha : annTrees (C8.fnArgs st) none X.env = [])
    (hN : X.N.Nodup) (hi : X.N[i]? = some name) (hx : Loc X.env.scope name) (hf : X.fn name = true ∨ X.env.scope.names.lookup name = some .local) :
    IS X T W st (sNdef i (NF.of st name q (cloFrom X.env.cells (C8.fnScope st).names []))) := by
  subst hq
  have key : IS X T W (.FunctionDef name (C8.fnArgs st) (C8.fnBody st) [] none [] (C8.fnScope st) none name pos) (sNdef i (NF.of st name (X.env.qual ++ name) (cloFrom X.env.cells (C8.fnScope st).names []))) := by
    refine ⟨ps_mono (ps_ndefA (T := T.map fun p => (p.1, fun _ _ => p.2)) (nm := fun _ _ => X.env.qual ++ name) TB hcode (List.mem_map.mpr ⟨_, hm, rfl⟩) rfl (fun p hp e => ?_) hfree hd0 hk0 ha hN hi hx hf) fun D σ H h => ?_⟩
    · obtain ⟨r, hr, rfl⟩ := List.mem_map.mp hp
      show (fun _ _ => r.2) = _
      rw [hu r hr e]
    · obtain ⟨es, S, Da, er, sr, h, dr⟩ := h
      refine ⟨tabsN_of sr.tabs, fun f c' H1 eN T1 f0 ne f1 c1 nf => ?_⟩
      have tx : TupX X.K H H1 := fun p ys q => eN p _ q (by simp)
      have s1 := sr.extN eN (tabsN_to T1)
      have er1 := er.ext tx
      exact dr.nx _ _ (h f c' (sr.free f0) ne (clo_at s1 c1 nf)) _ _ tx (er1.set (.ref f) i) (s1.over (a := f) (c := .nfn _) ⟨f1, c1⟩)
  have e2 : IS X T W st (sNdef i (NF.of st name (X.env.qual ++ name) (cloFrom X.env.cells (C8.fnScope st).names []))) := by
    have := key
    rw [← hst] at this
    exact this
  exact e2
end

/-! ### the call of the def that it is handed to -/
def slotA (es : AEnv) (j : Nat) : Option Val := match es[j]? with
  | some o => o
  | none => none
def astartF (N : List Str) (vs : List Val) (ws : List (Option Val)) : AEnv := vs.map some ++ (ws ++ List.replicate (N.length - vs.length - ws.length) none)
theorem slotA_rep {K : PySem.W.Frag} {H : Hp} {es : AEnv} {σ : St} (er : ERep K H es σ) {j : Nat} {x : Val} (h : slotA es j = some x) : ∃ y, slotAt σ j = some y ∧ VRep K H x y := by
  unfold slotA at h
  cases e : es[j]? with
  | none => rw [e] at h; cases h
  | some o =>
    rw [e] at h
    dsimp only at h
    subst h
    obtain ⟨y, h1, h2⟩ := er.get j x e
    exact ⟨y, slotAt_of h1, h2⟩
theorem erep_startF {K : PySem.W.Frag} {H : Hp} (N : List Str) {va : List Val} {vs : List V} (r : VReps K H va vs) {es : AEnv} {σ : St} (er : ERep K H es σ) (js : List Nat) : ERep K H (astartF N va (js.map (slotA es))) (startF N vs (js.map (slotAt σ))) := by
  refine ⟨by simp [astartF, startF, r.length], fun i x e => ?_⟩
  unfold astartF at e
  unfold startF
  rw [List.getElem?_append] at e ⊢
  rw [List.length_map] at e ⊢
  by_cases h : i < va.length
  · rw [if_pos h] at e
    rw [← r.length, if_pos h]
    rw [List.getElem?_map] at e ⊢
    cases e1 : va[i]? with
    | none => rw [e1] at e; cases e
    | some z =>
      rw [e1] at e
      cases e
      obtain ⟨y, h1, h2⟩ := r.get e1
      exact ⟨y, by rw [h1]; rfl, h2⟩
  · rw [if_neg h] at e
    rw [← r.length, if_neg h]
    rw [List.getElem?_append] at e ⊢
    simp only [List.length_map] at e ⊢
    by_cases h2 : i - va.length < js.length
    · rw [if_pos h2] at e ⊢
      rw [List.getElem?_map] at e ⊢
      cases ej : js[i - va.length]? with
      | none => rw [ej] at e; cases e
      | some j =>
        rw [ej] at e
        obtain ⟨y, h3, h4⟩ := slotA_rep er (Option.some.inj e)
        exact ⟨y, by simp [h3], h4⟩
    · rw [if_neg h2, List.getElem?_replicate] at e
      split at e <;> cases e
/-- what a def that is handed a function makes of its calls -/
def GivesN (X : Cx) (T : Tb) (Ng : List Str) (x : Str) (sg : Scope) (g : Addr) (cdg : Value) (bg : List Stmt) (a : Str) (rd : (AA → AE) → AS) : Prop :=
  ∀ (aa : AA → AE) (s : Shared) (H : Hp),
    (∀ (W : WX) (pn : List (Addr × Obj)) (xe : Value → Shared → Prop) (p1 p2 : Pos) (e : Expr) (es : List Expr) (t : AA), IA ((zCx X Ng x sg g cdg s H).tr pn xe) T W (e :: es) t →
      starEach (e :: es) ((zCx X Ng x sg g cdg s H).tr pn xe).env = (false, eval e ((zCx X Ng x sg g cdg s H).tr pn xe).env) :: starEach es ((zCx X Ng x sg g cdg s H).tr pn xe).env →
      (backTo p2 (starEach es ((zCx X Ng x sg g cdg s H).tr pn xe).env)).any (·.1) = false →
      IE ((zCx X Ng x sg g cdg s H).tr pn xe) T W (.Call (.Name a p1) (e :: es) [] p2) (aa t)) →
    ISs (zCx X Ng x sg g cdg s H).nox T W0 bg (rd aa)
/-- a call of the handed function -/
def aActN (f c' : Addr) (q : Str) (σ0 : St) (F : NF) (ia n : Nat) (N' : List Str) (js : List Nat) (bd : AS) (t : AA) : AE := fun E es S R => es[ia]? = some (some (.ref f)) ∧ S f = some (.nfn F) ∧ t E es S fun vs S1 => vs.length = n ∧ S1 f = some (.nfn F) ∧
  ∃ es0, S1 c' = some (.clo q es0 σ0) ∧ bd { nx := fun _ S' => R .non S', rt := R } (astartF N' vs (js.map (slotA es0))) S1
def aCallN (Ng : List Str) (ia np n : Nat) (mk : Addr → NF) (q : Str) (N' : List Str) (js : List Nat) (bd : AS) (rd : (AA → AE) → AS) (t : AA) : AE := fun E es S R => t E es S fun vs S1 => vs.length = np ∧ ∃ f c', vs[ia]? = some (.ref f) ∧ S1 f = some (.nfn (mk c')) ∧ (∀ c, S1 c' = some c → ∃ q e s, c = .clo q e s) ∧
  ∀ σ0, rd (aActN f c' q σ0 (mk c') ia n N' js bd) { nx := fun _ S' => S' f = some (.nfn (mk c')) ∧ R .non (backS S1 c' S'), rt := fun v S' => S' f = some (.nfn (mk c')) ∧ R v (backS S1 c' S') } (astart Ng vs) (ups S1 c' (.clo q es σ0))
/-- the promise of the nested def -/
def spN (K : PySem.W.Frag) (T : Tb) (n : Nat) (N' : List Str) (js : List Nat) (bd : AS) : List (Option V) → Sp := fun ws vs H Q E => ∃ (va : List Val) (es : AEnv) (σ : St) (S : Store) (R : AK), VReps K H va vs ∧ va.length = n ∧ ERep K H es σ ∧ ws = js.map (slotAt σ) ∧ SRep K T S H ∧
  bd { nx := fun _ S' => R .non S', rt := R } (astartF N' va (js.map (slotA es))) S ∧ ∀ v S', R v S' → ∀ H' v', TupX K H H' → SRep K T S' H' → VRep K H' v v' → Q v' H'
section
variable {X : Cx} {T : Tb} {W : WX}
/-- what the captured cells held when the frame began they hold still -/
theorem cells_later {cl : List (Str × Addr)} {fr : List Str} {ws : List (Option V)} {fs : List Addr} {H H2 : Hp} {h h2 : Heap} (C : CellsAt cl fr ws h H) (u : Un fs [] H H2 h h2) : CellsAt cl fr ws h2 H2 := by
  have kp : ∀ {c : Addr} {v : Option Value}, H c = none → h.IsCell c v → h2.IsCell c v := fun {c v} n ⟨o, ho, hd⟩ => by
    obtain ⟨sl, q⟩ := u.any ho n (by simp)
    exact ⟨_, q, hd⟩
  refine ⟨C.len, fun y c e => ?_, C.inj, fun i y e => ?_⟩
  · obtain ⟨n, v, z⟩ := C.all y c e
    refine ⟨?_, v, kp n z⟩
    obtain ⟨o, ho, _⟩ := z
    exact u.free c o ho n (by simp)
  · obtain ⟨c, hc, hv⟩ := C.has i y e
    refine ⟨c, hc, fun v ev => ?_⟩
    obtain ⟨w, r, z⟩ := hv v ev
    exact ⟨w, r, kp (C.all y c hc).1 z⟩
theorem ie_actN {pins : List (Addr × Obj)} {σ : St} {H : Hp} {s : Shared} {Ng : List Str} {qg : Str} {sg : Scope} {g f c' : Addr} {cdg : Value} {k ia n : Nat} {a q : Str} {pn : List (Addr × Obj)} {xe : Value → Shared → Prop} {F : NF} {ps' fr N' : List Str} {js : List Nat} {bd : AS} {p1 p2 : Pos} {e : Expr} {es : List Expr} {t : AA}
    (I : Inv X pins σ H s) (hFc : F.c = c') (hFq : F.qual = q) (C : CellsAt F.cl fr (js.map (slotAt σ)) s.heap H)
    (Fn : NOk X.prog X.w X.K X.mg X.base C8.CX0 k f F ps' fr (spN X.K T n N' js bd)) (hr : Room k (X.A.deeper (envOfC qg sg s.heap.objs.size g cdg)))
    (hN : Ng[ia]? = some a) (hv : Vis sg a) (hd : (a == ("__debug__" : Str)) = false) (hcd : (a == ("__classdict__" : Str)) = false)
    (ha : IA ((zCx X Ng qg sg g cdg s H).tr pn xe) T W (e :: es) t)
    (he : starEach (e :: es) ((zCx X Ng qg sg g cdg s H).tr pn xe).env = (false, eval e ((zCx X Ng qg sg g cdg s H).tr pn xe).env) :: starEach es ((zCx X Ng qg sg g cdg s H).tr pn xe).env)
    (hpl : (backTo p2 (starEach es ((zCx X Ng qg sg g cdg s H).tr pn xe).env)).any (·.1) = false) :
    IE ((zCx X Ng qg sg g cdg s H).tr pn xe) T W (.Call (.Name a p1) (e :: es) [] p2) (aActN f c' q σ F ia n N' js bd t) := ⟨⟨fun pinsZ sZ σZ HZ Q IZ h => by
  obtain ⟨esZ, SZ, EZ, R, er, sr, xr, ⟨h0, hS0, ht⟩, kq⟩ := h
  obtain ⟨y0, hs, ry⟩ := er.get ia _ h0
  cases ry
  refine wpAny_Call_Name_kw (thn ((pe_var (pos := p1) (i := ia) hN hv hd hcd).run pinsZ sZ σZ HZ (fun v H1 => v = .ref f ∧ H1 = HZ) IZ ⟨.ref f, hs, rfl, rfl⟩) fun u s1 hu => ?_)
  obtain ⟨v, H1, I1, r1, ev, eH⟩ := hu
  subst ev
  rw [eH] at I1
  have eu : u = Value.ref f := r1
  subst eu
  have f1 : HZ f = some (FnO f F) := (sr.cell f _ hS0).1
  refine PySem.W.callWith_F (first := []) (fnAt_of I1 f1) (thn (ha.r.run p2 pinsZ s1 σZ HZ (fun vs' H2 => ∃ va S2, TupX X.K HZ H2 ∧ SRep X.K T S2 H2 ∧ VReps X.K H2 va vs' ∧ va.length = n ∧ S2 f = some (.nfn F) ∧ ∃ es0, S2 c' = some (.clo q es0 σ) ∧ bd { nx := fun _ S' => R .non S', rt := R } (astartF N' va (js.map (slotA es0))) S2) I1
    ⟨esZ, SZ, EZ, _, er, sr, xr, ht, fun va S2 h2 H2 vs' t2 s2 r2 => ⟨va, S2, t2, s2, r2, h2⟩⟩) fun us s2 hu2 => ?_) he hpl
  obtain ⟨vs, H2, I2, r2, va, S2, t2, sr2, rv, hl, hS2, es0, hc0, hb⟩ := hu2
  have f2 : H2 f = some (FnO f F) := (sr2.cell f _ hS2).1
  refine ⟨fnAt_of I2 f2, ?_⟩
  show wpAny _ _ (call (.ref f) us) _ _ _
  obtain ⟨hc2, er0⟩ := sr2.cell c' _ hc0
  have un : Un (frs X.stack) [] H H2 s.heap s2.heap := I2.base
  have hcc : H2 F.c = some (LamX.CodeO F.c F.qual) := by rw [hFc, hFq]; exact hc2
  refine wpAny_call (codeAny_mono (Fn.goes _ _ s2 H2 us vs (js.map (slotAt σ)) Q C8.E0 hr I2.env0 f2 hcc (cells_later C un) r2 ⟨va, es0, σ, S2, R, rv, hl, er0, rfl, sr2, hb, fun v S' hv H' v' t s r => kq v S' hv H' v' (t2.trans t) s r⟩) fun r s' hq => ?_)
  cases r with
  | error e => exact (show False from hq).elim
  | ok fl =>
    cases fl with
    | ret u => exact I2.after hq
    | next => exact False.elim hq
    | brk => exact False.elim hq
    | cont => exact False.elim hq⟩⟩
/-- x(.., f), f a nested def's function -/
theorem ie_callN {x a q : Str} {st : Stmt} {Ng ps ps' fr N' : List Str} {ia k np n : Nat} {js : List Nat} {mk : Addr → NF} {scn : Scope} {bn : List Stmt} {bd : AS} {rd : (AA → AE) → AS} {p pos : Pos} {e : Expr} {es : List Expr} {t : AA}
    (D : DefA X.K X.mg x st) (hg : Gl X x) (Sg : FnScope Ng ps (defScope st)) (hia : Ng[ia]? = some a) (hva : Vis (defScope st) a)
    (hbd : ∀ (kV doc pm : Value) (an : Option Addr) (cdv ct : Value) (us : List Value), us.length = ps.length → bindArgs (PySem.W.fnOf x x (defArgs st) (defBody st) (defScope st) .none kV doc pm an cdv ct) ⟨us, []⟩ = pure (ps.zip us))
    (hG : ∀ (g : Addr) (cdv : Value), GivesN X T Ng x (defScope st) g cdv (defBody st) a rd)
    (hr : Room (k + 2) X.A)
    (hmc : ∀ c', (mk c').c = c') (hmq : ∀ c', (mk c').qual = q) (hms : ∀ c', (mk c').scope = scn) (hmb : ∀ c', (mk c').body = bn) (hml : ∀ c', (mk c').cl = cloFrom X.env.cells scn.names [])
    (hfree : ∀ y ∈ scn.names, y.2 = .free → X.env.scope.names.lookup y.1 = some .cell ∨ X.env.scope.names.lookup y.1 = some .free) (hfr : ∀ y ∈ fr, (y, NameKind.free) ∈ scn.names) (hjs : js.map (fun j => X.N[j]?) = fr.map some)
    (NS : NScope N' ps' fr scn)
    (hb' : ∀ (c' : Addr) (doc pm ctv : Value) (us : List Value), us.length = ps'.length → bindArgs ((mk c').fd doc pm ctv) ⟨us, []⟩ = pure (ps'.zip us))
    (hbody : ∀ (A : Around) (outer : List Env) (s : Shared) (H : Hp) (f c' : Addr), Room k (A.deeper (envF (mk c') f s.heap.objs.size)) → ISs (ncx C8.CX0 X.prog X.w X.K X.mg X.base N' (mk c') f A outer s H C8.E0).nox T W0 bn bd)
    (ha : IA X T W (e :: es) t) (hnp : ps.length = np := by rfl) (hnn : ps'.length = n := by rfl)
    (hdb : (x == ("__debug__" : Str)) = false := by decide) (hd : (a == ("__debug__" : Str)) = false := by decide) (hcd : (a == ("__classdict__" : Str)) = false := by decide)
    (he : starEach (e :: es) X.env = (false, eval e X.env) :: starEach es X.env := by rfl) (hpl : (backTo pos (starEach es X.env)).any (·.1) = false := by rfl) :
    IE X T W (.Call (.Name x p) (e :: es) [] pos) (aCallN Ng ia np n mk q N' js bd rd t) := ⟨⟨fun pins s σ H Q I h => by
  subst hnp hnn
  obtain ⟨esA, S, E, R, er, sr, xr, h, kq⟩ := h
  obtain ⟨oc, od, kV, doc, pm, an, ct, osl, lk, hcd2⟩ := D.ex
  refine wpAny_Call_Name_kw (ld_glob I hg D.gm ?_ hdb)
  refine PySem.W.callWith_K (h₀ := X.base) I.ok.mod.kin D.kp (thn (ha.r.run pos pins s σ H (fun vs' H1 => ∃ va S1, TupX X.K H H1 ∧ SRep X.K T S1 H1 ∧ VReps X.K H1 va vs' ∧ va.length = ps.length ∧ ∃ f c', va[ia]? = some (.ref f) ∧ S1 f = some (.nfn (mk c')) ∧ (∀ c, S1 c' = some c → ∃ q e s, c = .clo q e s) ∧
      ∀ σ0, rd (aActN f c' q σ0 (mk c') ia ps'.length N' js bd) { nx := fun _ S' => S' f = some (.nfn (mk c')) ∧ R .non (backS S1 c' S'), rt := fun v S' => S' f = some (.nfn (mk c')) ∧ R v (backS S1 c' S') } (astart Ng va) (ups S1 c' (.clo q esA σ0))) I
    ⟨esA, S, E, _, er, sr, xr, h, fun va S1 h1 H1 vs' t1 s1 r1 => ⟨va, S1, t1, s1, r1, h1⟩⟩) fun us s1 hu => ?_) he hpl
  obtain ⟨vs, H1, I1, r1, va, S1, t1, s1r, rv, hl, f, c', hf, hS, hcl, hrd⟩ := hu
  refine ⟨I1.kIn, ?_⟩
  have er1 := er.ext t1
  have hcH : H1 c' = some (LamX.CodeO c' q) := by
    have z := (s1r.cell f _ hS).2
    rw [hmc, hmq] at z
    exact z
  have bk : ∀ {S' : Store} {H' : Hp}, TupX X.K H1 H' → SRep X.K T S' H' → S' f = some (.nfn (mk c')) → SRep X.K T (backS S1 c' S') H' := fun {S' H'} t sr' hf' => ⟨fun a c e => by
    unfold backS at e
    by_cases z : a = c'
    · rw [if_pos z] at e
      subst z
      obtain ⟨q2, e2, s2, rfl⟩ := hcl c e
      obtain ⟨h1, h2⟩ := s1r.cell _ _ e
      have h3 := (sr'.cell f _ hf').2
      rw [hmc, hmq] at h3
      exact ⟨(h3.trans hcH.symm).trans h1, h2.ext t⟩
    · rw [if_neg z] at e
      exact sr'.cell a c e, sr'.tabs⟩
  have s2 : SRep X.K T (ups S1 c' (.clo q esA σ)) H1 := s1r.over ⟨hcH, er1⟩
  have hvl : vs.length = ps.length := rv.length.symm.trans hl
  refine wpAny_call (codeAny_mono (R := CR C8.CX0 X.stack X.prog X.w H1 s1 Q C8.E0) ?rc fun r s2 hq => ?fin)
  case rc =>
    show codeAny _ _ (.call (.ref (He.ga X.K x)) ⟨us, []⟩) _ _
    refine LamX.run_ofS (N := Ng) (ps := ps) (us := us) (vs := vs) lk hcd2 Sg hr.r I1.env0 (by
      have z := D.binds hbd lk s1 us I1.kIn (by rw [List.append_nil, ← r1.length]; exact hvl)
      rw [List.append_nil] at z
      exact z) r1 hvl fun _ => ?_
    have Fn : NOk X.prog X.w X.K X.mg X.base C8.CX0 (k + 1) f (mk c') ps' fr (spN X.K T ps'.length N' js bd) := by
      refine nok_ofG (N := N') (by rw [hms]; exact NS) (hb' c') (fun ws vs H Q E h => ?_) fun A outer s H vs ws Q E hr h => ?_
      · obtain ⟨va, _, _, _, _, r, hl, _⟩ := h
        rw [← r.length]
        exact hl
      · obtain ⟨va, es, σ, S, R, rv, hl, er, ew, sr, hb, kq⟩ := h
        subst ew
        rw [hmb]
        refine ⟨_, (PSs.nox (hbody A outer s H f c' hr).r), astartF N' va (js.map (slotA es)), S, _, erep_startF N' rv er js, sr, hb, ?_⟩
        exact { nx := fun _ S' hq σ' H' t _ s => kq _ _ hq _ _ t s .non, rt := fun v S' hq H' v' t s r => kq _ _ hq _ _ t s r, bk := fun _ _ h => h.elim, ct := fun _ _ h => h.elim, ex := fun _ _ _ h => h.elim }
    have C : CellsAt (mk c').cl fr (js.map (slotAt σ)) s1.heap H1 := by
      rw [hml]
      exact cells_of I1 (Caps.made I1.ok hfree hfr hjs)
    have hIS := hG (He.ga X.K x) (.ref (He.codeOf X.K (x, none))) (aActN f c' q σ (mk c') ia ps'.length N' js bd) s1 H1 fun W pn xe p1 p2 e es t ha he hpl =>
      ie_actN I1 (hmc c') (hmq c') C Fn (hr.deeper _) hia hva hd hcd ha he hpl
    refine ⟨_, hIS.r.nox, astart Ng va, _, _, erep_start Ng rv, s2, hrd σ, ?_⟩
    exact { nx := fun _ S' hq σ' H' t _ s => kq _ _ hq.2 _ _ (t1.trans t) (bk t s hq.1) .non, rt := fun v S' hq H' v' t s r => kq _ _ hq.2 _ _ (t1.trans t) (bk t s hq.1) r, bk := fun _ _ h => h.elim, ct := fun _ _ h => h.elim, ex := fun _ _ _ h => h.elim }
  case fin =>
    cases r with
    | error e => exact (show False from hq).elim
    | ok fl =>
      cases fl with
      | ret u => exact I1.after hq
      | next => exact False.elim hq
      | brk => exact False.elim hq
      | cont => exact False.elim hq⟩⟩
end
end A3
namespace A3
open PySem PySem.Spec PyProof.Rows L2 NdefX
/-- a def that makes a function: the reading is over what it makes -/
theorem cal_ofN {P : Program} {w : World} {K : PySem.W.Frag} {mg : Str → Option Value} {base : Heap} {T : Tb} {x : Str} {st : Stmt} {N ps : List Str} {k : Nat} {asp : ASp} {a : (Addr → NF) → AS} (D : DefA K mg x st) (S : FnScope N ps (defScope st))
    (hbd : ∀ (kV doc pm : Value) (an : Option Addr) (cdv ct : Value) (us : List Value), us.length = ps.length → bindArgs (PySem.W.fnOf x x (defArgs st) (defBody st) (defScope st) .none kV doc pm an cdv ct) ⟨us, []⟩ = pure (ps.zip us))
    (len : ∀ va S R RE, asp va S R RE → va.length = ps.length)
    (pure : ∀ mk va S R RE, asp va S R RE → a mk { nx := fun _ S' => R .non S', rt := R, ex := fun x _ S' => RE x S' } (astart N va) S)
    (hbody : ∀ (A : Around) (outer : List Env) (s : Shared) (H : Hp) (E : XK), Room k (A.deeper (envOfC x (defScope st) s.heap.objs.size (He.ga K x) (.ref (He.codeOf K (x, none))))) →
      ∃ mk, ISs (cxOf (L2.CX P w) P w K mg base N x (defScope st) (He.ga K x) (.ref (He.codeOf K (x, none))) A outer s H E) T (fun cls d _ H => E cls d H) (defBody st) (a mk)) : CalA P w K mg base T (k + 1) x asp := by
  obtain ⟨oc, od, kV, doc, pm, an, ct, osl, lk, hcd⟩ := D.ex
  refine ⟨_, _, ps, fn_ofG lk hcd S (fun vs H Q E h => ?_) (fun A outer s H vs Q E hr h => ?_), D.gm, D.kp, D.binds hbd lk⟩
  · obtain ⟨va, S, R, RE, r, _, h, _⟩ := h
    rw [← r.length]
    exact len va S R RE h
  · obtain ⟨va, S, R, RE, r, sr, h, kq, kx⟩ := h
    obtain ⟨mk, hb⟩ := hbody A outer s H E hr
    exact ⟨_, hb.r, astart N va, S, _, erep_start N r, sr, pure mk va S R RE h,
      { nx := fun _ S' hq σ' H' t _ s => kq _ _ hq _ _ t s .non, rt := fun v S' hq H' v' t s r => kq _ _ hq _ _ t s r, bk := fun _ _ h => h.elim, ct := fun _ _ h => h.elim, ex := fun x _ S' hx _ H' d t _ s q => kx x S' hx H' d t s q }⟩
end A3

set_option Elab.async false
set_option linter.all false
set_option maxRecDepth 100000
set_option maxHeartbeats 4000000
/-! range(a, b, -1). -/
namespace A3
open PySem PySem.Spec PyProof.Rows L2
/-- hi, hi - 1, .. above lo -/
def rgD (hi lo : Int) : List Val := (List.range (hi - lo).toNat).map fun i => .int (hi - (i : Nat))
theorem rgD_len {hi lo : Int} : (rgD hi lo).length = (hi - lo).toNat := by simp [rgD]
theorem rgD_at {hi lo : Int} {i : Nat} {x : Val} (h : (rgD hi lo)[i]? = some x) : x = .int (hi - i) ∧ lo < hi - i := by
  simp only [rgD, List.getElem?_map, Option.map_eq_some_iff] at h
  obtain ⟨j, hj, rfl⟩ := h
  obtain ⟨h1, h2⟩ := List.getElem?_eq_some_iff.mp hj
  simp only [List.length_range] at h1
  simp only [List.getElem_range] at h2
  subst h2
  exact ⟨rfl, by omega⟩
def kR3 : Val → Val → Val → Store → (Seq → Store → Prop) → Prop
  | .int i, .int j, .int c, S, N => c = -1 ∧ (-(2 ^ 62) ≤ i ∧ i < 2 ^ 62 ∧ -(2 ^ 62) ≤ j ∧ j < 2 ^ 62) ∧ N ⟨rgD i j, fun _ => True⟩ S
  | _, _, _, _, _ => False
theorem x_kR3 {i j c : Int} {S : Store} {N : Seq → Store → Prop} : kR3 (.int i) (.int j) (.int c) S N = (c = -1 ∧ (-(2 ^ 62) ≤ i ∧ i < 2 ^ 62 ∧ -(2 ^ 62) ≤ j ∧ j < 2 ^ 62) ∧ N ⟨rgD i j, fun _ => True⟩ S) := rfl
def iR3 (a b c : AE) : AI := fun E es S R => a E es S fun x S1 => b E es S1 fun y S2 => c E es S2 fun z S3 => kR3 x y z S3 R
theorem jrep_d {K : PySem.W.Frag} {T : Tb} {H0 : Hp} (hi lo : Int) : JRep K T H0 (Itc hi (-1) (hi - lo).toNat) ⟨rgD hi lo, fun _ => True⟩ := by
  refine ⟨fun i S H tt ok sr h => ?_, fun i S H x' H' tt ok sr hy x hx => ?_, fun i S H tt ok sr h => ?_⟩
  · show i < (hi - lo).toNat
    rw [← rgD_len]
    exact h
  · obtain ⟨e, hy⟩ := hy
    subst e hy
    obtain ⟨e, _⟩ := rgD_at hx
    subst e
    rw [show hi + (i : Nat) * (-1 : Int) = hi - (i : Nat) by omega]
    exact ⟨.int _, .refl _, sr⟩
  · show (hi - lo).toNat ≤ i
    rw [← rgD_len]
    exact h
section
variable {X : Cx} {T : Tb} {W : WX} {tg a b c : Expr} {aa ab ac : AE} {p pos : Pos}
theorem ii_r3 (hg : Gl X "range") (hm : X.mg "range" = none) (ha : IE X T W a aa) (hb : IE X T W b ab) (hc : IE X T W c ac) (hs : starEach [a, b, c] X.env = (false, eval a X.env) :: starEach [b, c] X.env := by rfl) (hs2 : starEach [b, c] X.env = (false, eval b X.env) :: starEach [c] X.env := by rfl) (hs3 : starEach [c] X.env = [(false, eval c X.env)] := by rfl)
    (hpl : (backTo pos (starEach [b, c] X.env)).any (·.1) = false := by rfl) : II X T W tg (.Call (.Name "range" p) [a, b, c] [] pos) (iR3 aa ab ac) :=
  ⟨pi_mono (pi_range3 hg hm (pa_cons ha.r (pa_cons hb.r (pa_cons hc.r pa_nil hs3) hs2) hs) hs hpl) fun σ H R h => by
    obtain ⟨es, S, E, RR, er, sr, xr, h, k⟩ := h
    refine ⟨es, S, E, _, er, sr, xr, h, fun x S1 h1 H1 x' t1 s1 v1 => ⟨es, S1, E, _, er.ext t1, s1, xr.ext t1, h1, fun y S2 h2 H2 y' t2 s2 v2 => ⟨es, S2, E, _, er.ext (t1.trans t2), s2, xr.ext (t1.trans t2), h2, fun z S3 h3 H3 z' t3 s3 v3 => ?_⟩⟩⟩
    have w1 := v1.ext (t2.trans t3)
    have w2 := v2.ext t3
    cases w1 with
    | int i =>
      cases w2 with
      | int j =>
        cases v3 with
        | int c =>
          obtain ⟨rfl, ⟨b1, b2, b3, b4⟩, h3⟩ := h3
          exact ⟨i, j, -1, _, rfl, RgC.neg b1 b2 b3 b4, k _ _ h3 _ _ ((t1.trans t2).trans t3) s3 (jrep_d i j)⟩
        | _ => exact h3.elim
      | _ => exact h3.elim
    | _ => exact h3.elim⟩
end
end A3

set_option Elab.async false
set_option linter.all false
set_option maxRecDepth 100000
set_option maxHeartbeats 4000000
/-! zip of two lists, of two tuples. -/
namespace A3
open PySem PySem.Spec PyProof.Rows L2 RZ
def zpI (xs ys : List Val) : List Val := List.zipWith (fun x y => .tup [x, y]) xs ys
theorem zpI_get {xs ys : List Val} {i : Nat} {z : Val} (h : (zpI xs ys)[i]? = some z) : ∃ x y, xs[i]? = some x ∧ ys[i]? = some y ∧ z = .tup [x, y] := by
  unfold zpI at h
  rw [List.getElem?_zipWith] at h
  cases hx : xs[i]? with
  | none => rw [hx] at h; cases h
  | some x =>
    cases hy : ys[i]? with
    | none => rw [hx, hy] at h; cases h
    | some y => rw [hx, hy] at h; exact ⟨x, y, rfl, rfl, (Option.some.inj h).symm⟩
theorem zpI_len {xs ys : List Val} : (zpI xs ys).length = min xs.length ys.length := by unfold zpI; simp
def kZip : Val → Val → Store → (Seq → Store → Prop) → Prop
  | .tup xs, .tup ys, S, N => N ⟨zpI xs ys, fun _ => True⟩ S
  | .ref p, .ref q, S, N => ∃ xs ys, (S p = some (.lst xs) ∨ S p = some (.rd xs)) ∧ (S q = some (.lst ys) ∨ S q = some (.rd ys)) ∧ N ⟨zpI xs ys, fun S => (S p = some (.lst xs) ∨ S p = some (.rd xs)) ∧ (S q = some (.lst ys) ∨ S q = some (.rd ys))⟩ S
  | _, _, _, _ => False
def iZip (a b : AE) : AI := fun E es S R => a E es S fun x S1 => b E es S1 fun y S2 => kZip x y S2 R
section
variable {X : Cx} {T : Tb} {W : WX} {p pos tpos : Pos} {elts : List Expr} {kk : Nat}
theorem yld_two {K : PySem.W.Frag} {S : Store} {H : Hp} {n : Addr} {x x2 : Val} {y y2 : V} (hn : H n = none) (sr : SRep K T S H) (r : VRep K H x y) (r2 : VRep K H x2 y2) :
    VRep K (upd H n (.tup [y, y2])) (.tup [x, x2]) (.ref n) ∧ TupX K H (upd H n (.tup [y, y2])) ∧ SRep K T S (upd H n (.tup [y, y2])) := by
  have t2 : TupX K H (upd H n (.tup [y, y2])) := .upd (noTup_none hn)
  exact ⟨.tup upd_same (.cons (r.ext t2) (.cons (r2.ext t2) .nil)), t2, sr.laid hn⟩
theorem ii_zip {e e2 : Expr} {aa ab : AE} (hg : Gl X "zip") (hm : X.mg "zip" = none) (ha : IE X T W e aa) (hb : IE X T W e2 ab) (hs : starEach [e, e2] X.env = (false, eval e X.env) :: starEach [e2] X.env := by rfl) (hs2 : starEach [e2] X.env = [(false, eval e2 X.env)] := by rfl)
    (hpl : (backTo pos (starEach [e2] X.env)).any (·.1) = false := by rfl) : II X T W (.Tuple elts kk tpos) (.Call (.Name "zip" p) [e, e2] [] pos) (iZip aa ab) :=
  ⟨pi_mono (pi_zipA hg hm (pa_cons ha.r (pa_cons hb.r pa_nil hs2) hs) hs hpl) fun σ H R h => by
    obtain ⟨es, S, E, RR, er, sr, xr, h, k⟩ := h
    refine ⟨es, S, E, _, er, sr, xr, h, fun x S1 h1 H1 x' t1 s1 v1 => ⟨es, S1, E, _, er.ext t1, s1, xr.ext t1, h1, fun y S2 h2 H2 y' t2 s2 v2 => ?_⟩⟩
    have w1 := v1.ext t2
    cases w1 with
    | @tup pa xs xs' sq r =>
      cases v2 with
      | @tup pb ys ys' sq2 r2 =>
        refine ⟨pa, pb, xs', ys', rfl, .inr ⟨.of sq, .of sq2, k _ _ h2 _ _ (t1.trans t2) s2 ⟨fun i S H tt ok sr hi => ?_, fun i S H x' H' tt ok sr hy x hx => ?_, fun i S H tt ok sr hi => ?_⟩⟩⟩
        · have hi : i < (zpI xs ys).length := hi
          rw [zpI_len] at hi
          obtain ⟨z, hz⟩ := lt_some (show i < xs'.length from r.length ▸ by omega)
          obtain ⟨z2, hz2⟩ := lt_some (show i < ys'.length from r2.length ▸ by omega)
          exact ⟨xs', ys', z, z2, .of (tt _ _ sq), .of (tt _ _ sq2), hz, hz2⟩
        · obtain ⟨n, z, z2, e, hn, eH, g1, g2⟩ := hy
          subst e eH
          obtain ⟨x0, y0, e1, e2, rfl⟩ := zpI_get hx
          obtain ⟨u1, f1, q1⟩ := (r.ext tt).get e1
          obtain ⟨u2, f2, q2⟩ := (r2.ext tt).get e2
          have k1 := g1 xs' (.of (tt _ _ sq))
          have k2 := g2 ys' (.of (tt _ _ sq2))
          rw [f1] at k1
          rw [f2] at k2
          cases k1
          cases k2
          exact yld_two hn sr q1 q2
        · have hi : (zpI xs ys).length ≤ i := hi
          rw [zpI_len] at hi
          have l1 := r.length
          have l2 := r2.length
          exact ⟨xs', ys', .of (tt _ _ sq), .of (tt _ _ sq2), by omega⟩
      | _ => exact h2.elim
    | ref pa =>
      cases v2 with
      | ref pb =>
        obtain ⟨xs, ys, hp, hq, hR⟩ := h2
        obtain ⟨xs', sq, r⟩ := CRep.sql s2 hp
        obtain ⟨ys', sq2, r2⟩ := CRep.sql s2 hq
        refine ⟨pa, pb, xs', ys', rfl, .inl ⟨sq, sq2, k _ _ hR _ _ (t1.trans t2) s2 ⟨fun i S H tt ok sr hi => ?_, fun i S H x' H' tt ok sr hy x hx => ?_, fun i S H tt ok sr hi => ?_⟩⟩⟩
        · obtain ⟨a1, b1, r⟩ := CRep.sql sr ok.1
          obtain ⟨a2, b2, r2⟩ := CRep.sql sr ok.2
          have hi : i < (zpI xs ys).length := hi
          rw [zpI_len] at hi
          obtain ⟨z, hz⟩ := lt_some (show i < a1.length from r.length ▸ by omega)
          obtain ⟨z2, hz2⟩ := lt_some (show i < a2.length from r2.length ▸ by omega)
          exact ⟨a1, a2, z, z2, b1, b2, hz, hz2⟩
        · obtain ⟨a1, b1, r⟩ := CRep.sql sr ok.1
          obtain ⟨a2, b2, r2⟩ := CRep.sql sr ok.2
          obtain ⟨n, z, z2, e, hn, eH, g1, g2⟩ := hy
          subst e eH
          obtain ⟨x0, y0, e1, e2, rfl⟩ := zpI_get hx
          obtain ⟨u1, f1, q1⟩ := r.get e1
          obtain ⟨u2, f2, q2⟩ := r2.get e2
          have k1 := g1 a1 b1
          have k2 := g2 a2 b2
          rw [f1] at k1
          rw [f2] at k2
          cases k1
          cases k2
          exact yld_two hn sr q1 q2
        · obtain ⟨a1, b1, r⟩ := CRep.sql sr ok.1
          obtain ⟨a2, b2, r2⟩ := CRep.sql sr ok.2
          have hi : (zpI xs ys).length ≤ i := hi
          rw [zpI_len] at hi
          have l1 := r.length
          have l2 := r2.length
          exact ⟨a1, a2, b1, b2, by omega⟩
      | _ => exact h2.elim
    | _ => exact h2.elim⟩
end
/-! ### {k: v for target in iter if ..}, keys ints or texts -/
def aDc (ai : AI) (g : AG) (tt : AT) (tk tv : AE) (vs : List Nat) : AE := fun E es S R => ai E es S fun q S1 => ∀ p, S1 p = none → ∃ I : Nat → Store → Prop, I 0 (ups S1 p (.dk [])) ∧ ∀ i S, I i S → q.ok S ∧
  (∀ x, q.xs[i]? = some x → g X0 x (awipe es vs) S fun es2 S2 => tt X0 es2 S2 fun b S3 => if b = true then tk X0 es2 S3 fun y S4 => tv X0 es2 S4 fun z S5 => ∃ kvs k, keyA y = some k ∧ S5 p = some (.dk kvs) ∧ kvs.length < sizeLine ∧ I (i + 1) (ups S5 p (.dk (putA kvs k z))) else I (i + 1) S3) ∧
  (q.xs.length ≤ i → R (.ref p) S)
section
variable {X : Cx} {T : Tb} {W : WX} {pos : Pos} {tg iter kx vx : Expr} {ifs : List Expr} {ai : AI} {g : AG} {tt : AT} {tk tv : AE} {scope : Scope} {own : List (Str × Nat)}
theorem low_dc {H0 : Hp} {vs : List Nat} {σ : L2.St} {Q : VK} (h : lowE X.K T W (aDc ai g tt tk tv vs) σ H0 Q) : tDc (lowI X.K T W ai) (lowGv X.K T vs g) (lowT X.K T W0 tt) (lowE X.K T W0 tk) (lowE X.K T W0 tv) vs σ H0 Q := by
  obtain ⟨es, S, E, R, er, sr, xr, h, k⟩ := h
  refine ⟨es, S, E, _, er, sr, xr, h, fun q S1 h1 H1 J t1 s1 jr D hD => ?_⟩
  obtain ⟨I, h0, hI⟩ := h1 D (s1.free hD)
  have tD : TupX X.K H1 (upd H1 D (.dK [])) := .upd (noTup_none hD)
  refine ⟨fun i m H' => ∃ S', i + m = q.xs.length ∧ TupX X.K H1 H' ∧ SRep X.K T S' H' ∧ I i S', ⟨q.xs.length, _, by omega, tD, s1.new (c := .dk []) hD ⟨[], upd_same, .nil⟩, h0⟩, ?_⟩
  rintro i m H' ⟨S', hm, t2, sr', hi'⟩
  obtain ⟨ok, hgo, hst⟩ := hI i S' hi'
  have er' := er.ext (t1.trans t2)
  cases m with
  | zero => exact .inl ⟨jr.stop i S' H' t2 ok sr' (by omega), k _ _ (hst (by omega)) _ _ (t1.trans t2) sr' (.ref D)⟩
  | succ m =>
    refine .inr ⟨jr.go i S' H' t2 ok sr' (by omega), fun H2 => ∃ S2, TupX X.K H1 H2 ∧ SRep X.K T S2 H2 ∧ I (i + 1) S2, fun H2 ⟨S2, a, b, c⟩ => ⟨m, by omega, S2, by omega, a, b, c⟩, fun x' H2 hy => ?_⟩
    obtain ⟨x, hx⟩ := lt_some (show i < q.xs.length by omega)
    obtain ⟨vr, t3, s3⟩ := jr.yld i S' H' x' H2 t2 ok sr' hy x hx
    refine ⟨x, awipe es vs, S', _, vr, (er'.ext t3).wipe vs, s3, hgo x hx, fun es4 S4 h4 σ4 H4 w4 t4 er4 sr4 => ⟨w4.trans (wipe_wipe _ _), es4, S4, _, _, er4, sr4, xrep0, h4, fun b S5 h5 H5 t5 s5 => ?_⟩⟩
    have t24 := (t2.trans t3).trans t4
    cases b with
    | false => exact ⟨S5, t24.trans t5, s5, h5⟩
    | true =>
      refine ⟨es4, S5, _, _, er4.ext t5, s5, xrep0, h5, fun y S6 h6 H6 y' t6 s6 r6 => ?_⟩
      refine ⟨es4, S6, _, _, er4.ext (t5.trans t6), s6, xrep0, h6, fun z S7 h7 H7 z' t7 s7 r7 => ?_⟩
      obtain ⟨kvs, ky, hk, ea, hz, hn⟩ := h7
      obtain ⟨ys, ea', ra⟩ := s7.cell D _ ea
      have tu : TupX X.K H7 (upd H7 D (.dK (putK ys ky z'))) := .upd (s7.cell D _ ea).noTup
      exact ⟨ys, ky, keyA_ok (r6.ext t7) hk, ea', ra.length ▸ hz, _, (((t24.trans t5).trans t6).trans t7).trans tu, s7.write (c := .dk (putA kvs ky z)) ea ⟨_, upd_same, (ra.put r7).ext tu⟩, hn⟩
theorem ie_dc (hc : X.calm = true) (hN : X.N.Nodup) (hi : II X T W tg iter ai) (ok : BlkOk X.N X.env.scope scope own)
    (hg : ∀ (s : Shared) (H : Hp) (C : Addr) (cl : List (Str × Addr)) (fp : List Addr), IGv (X.blk s H scope (compEnvC scope cl C X.env) fp) T (own.map (·.2)) tg g)
    (ht : ∀ (s : Shared) (H : Hp) (C : Addr) (cl : List (Str × Addr)) (fp : List Addr), ITs (X.blk s H scope (compEnvC scope cl C X.env) fp) T W0 ifs tt)
    (hk : ∀ (s : Shared) (H : Hp) (C : Addr) (cl : List (Str × Addr)) (fp : List Addr), IE (X.blk s H scope (compEnvC scope cl C X.env) fp) T W0 kx tk)
    (he : ∀ (s : Shared) (H : Hp) (C : Addr) (cl : List (Str × Addr)) (fp : List Addr), IE (X.blk s H scope (compEnvC scope cl C X.env) fp) T W0 vx tv) (hs : ∀ x, foldedSetIterable iter X.env x = pure x := by intro _; rfl) :
    IE X T W (.DictComp kx vx [⟨tg, iter, ifs, 0⟩] scope pos) (aDc ai g tt tk tv (own.map (·.2))) :=
  ⟨pe_mono (pe_dc hc hN hi.r ok (fun s H C cl fp => (hg s H C cl fp).r) (fun s H C cl fp => (ht s H C cl fp).r) (fun s H C cl fp => (hk s H C cl fp).r) (fun s H C cl fp => (he s H C cl fp).r) hs) fun σ H Q h => low_dc h⟩
end
/-! ### xs[lo:hi:st] of a list -/
def pickG {α : Type} (xs : List α) (lo hi st : Option Int) : List α := (sliceRange (sliceBounds lo hi st xs.length).1 (sliceBounds lo hi st xs.length).2.1 (sliceBounds lo hi st xs.length).2.2).filterMap fun i => xs[i]?
theorem pick_arr (its : List Value) (lo hi st : Option Int) : slicePick its.toArray lo hi st = (pickG its lo hi st).toArray := by
  simp only [slicePick, pickG, List.size_toArray, List.getElem?_toArray]
theorem vals_pick {xs : List V} {its : List Value} (r : Vals xs its) : ∀ ix : List Nat, Vals (ix.filterMap fun i => xs[i]?) (ix.filterMap fun i => its[i]?)
  | [] => .nil
  | i :: ix => by
    have ih := vals_pick r ix
    rcases Nat.lt_or_ge i xs.length with h | h
    · obtain ⟨u, hu, q⟩ := r.get (List.getElem?_eq_getElem h)
      rw [List.filterMap_cons_some (List.getElem?_eq_getElem h), List.filterMap_cons_some hu]
      exact .cons q ih
    · have h2 : its.length ≤ i := r.length ▸ h
      rw [List.filterMap_cons_none (List.getElem?_eq_none h), List.filterMap_cons_none (List.getElem?_eq_none h2)]
      exact ih
theorem vreps_pick {K : PySem.W.Frag} {H : Hp} {xs : List Val} {ys : List V} (r : VReps K H xs ys) : ∀ ix : List Nat, VReps K H (ix.filterMap fun i => xs[i]?) (ix.filterMap fun i => ys[i]?)
  | [] => .nil
  | i :: ix => by
    have ih := vreps_pick r ix
    rcases Nat.lt_or_ge i xs.length with h | h
    · obtain ⟨u, hu, q⟩ := r.get (List.getElem?_eq_getElem h)
      rw [List.filterMap_cons_some (List.getElem?_eq_getElem h), List.filterMap_cons_some hu]
      exact .cons q ih
    · have h2 : ys.length ≤ i := r.length ▸ h
      rw [List.filterMap_cons_none (List.getElem?_eq_none h), List.filterMap_cons_none (List.getElem?_eq_none h2)]
      exact ih
def tSlS (K : PySem.W.Frag) (te : TE) (tl th ts : TO) : TE := fun σ H Q => te σ H fun x H1 => tl σ H1 fun lo H2 => th σ H2 fun hi H3 => ts σ H3 fun st H4 => ∃ a xs, x = .ref a ∧ SqL K H4 a xs ∧ st ≠ some 0 ∧ (pickG xs lo hi st).length ≤ sizeLine ∧ ∀ p, H4 p = none → Q (.ref p) (upd H4 p (.lst (pickG xs lo hi st)))
section
variable {X : Cx} {T : Tb} {W : WX} {e : Expr} {te : TE} {lo hi : Option Expr} {se : Expr} {tl th ts : TO} {p3 pos : Pos}
theorem pe_slS (he : PE X e te) (hl : PO X lo tl) (hh : PO X hi th) (hs : PO X (some se) ts) : PE X (.Subscript e (.Slice lo hi (some se) p3) pos) (tSlS X.K te tl th ts) := by
  refine ⟨fun pins s σ H Q I h => ?_⟩
  refine Subscript_ (thn (he.run pins s σ H _ I h) fun v s1 ⟨x, H1, I1, r1, q1⟩ => ?_)
  refine wpAny_Slice (thn (hl.run pins s1 σ H1 _ I1 q1) fun vl s2 ⟨l, H2, I2, pl, q2⟩ => ?_)
  refine thn (hh.run pins s2 σ H2 _ I2 q2) fun vu s3 ⟨u, H3, I3, pu, q3⟩ => ?_
  refine thn (hs.run pins s3 σ H3 _ I3 q3) fun vs s4 ⟨o, H4, I4, ps, q4⟩ => ?_
  obtain ⟨a, xs, ex, hx, n0, hz2, q⟩ := q4
  subst ex
  cases r1
  have I5 : Inv X pins σ H4 { s4 with heap := s4.heap.push { cls := .type "slice", data := .fields #[vl, vu, vs] } } := I4.kept (t' := s4.toks) fun b ob q => Heap.get?_push_of_some _ q
  obtain ⟨its, r, ht, hz⟩ := I5.list hx
  have hlen := r.length
  show wpAny (model X.prog X.w) X.A (subscriptTail e (.Slice lo hi (some se) p3) (.ref a) (.ref s4.heap.objs.size)) (EP X pins σ Q) X.xe { s4 with heap := s4.heap.push { cls := .type "slice", data := .fields #[vl, vu, vs] } }
  refine tail_any (ops := [.ref a, .ref s4.heap.objs.size]) ht.isList.typeIs (PySem.slot_list_getitem.lookup) ?_ (by with_unfolding_all rfl)
  refine wpAny_getItem_list_slice ht.isList (Heap.IsSliceOf.new _ vl vu vs) pl pu ps n0 ?_ (by rw [List.size_toArray]; omega)
  rw [pick_arr]
  refine ⟨.ref _, _, I5.laid (t' := s4.toks) (o := .lst (pickG xs l u o)) (fun b ob q => Heap.get?_push_of_some _ q) (Nat.le_refl _) ?_, rfl, q _ (I5.hok.fresh (Nat.le_refl _))⟩
  have rv : Vals (pickG xs l u o) (pickG its l u o) := by
    unfold pickG
    rw [hlen]
    exact vals_pick r _
  exact ⟨hz2, _, 0, rv, Heap.get?_push_size _ rfl⟩
/-- the parts are told at once -/
def aSlS (a : AE) (lo hi st : AO) : AE := fun E es S R => a E es S fun x S1 => lo E es S1 fun l S2 => hi E es S2 fun h S3 => st E es S3 fun o S4 => match x with
  | .ref a => ∃ xs, (S4 a = some (.lst xs) ∨ S4 a = some (.rd xs)) ∧ o ≠ some 0 ∧ (pickG xs l h o).length ≤ sizeLine ∧ ∀ p, S4 p = none → R (.ref p) (ups S4 p (.lst (pickG xs l h o)))
  | _ => False
theorem ie_slS {aa : AE} {al ah as : AO} (he : IE X T W e aa) (hl : IO X T W lo al) (hh : IO X T W hi ah) (hs : IO X T W (some se) as) : IE X T W (.Subscript e (.Slice lo hi (some se) p3) pos) (aSlS aa al ah as) :=
  ⟨pe_mono (pe_slS he.r hl.r hh.r hs.r) fun σ H Q h => by
    obtain ⟨es, S, E, R, er, sr, xr, h, k⟩ := h
    refine ⟨es, S, E, _, er, sr, xr, h, fun x S1 h1 H1 x' t1 s1 v1 => ⟨es, S1, E, _, er.ext t1, s1, xr.ext t1, h1, fun l S2 h2 H2 t2 s2 => ⟨es, S2, E, _, er.ext (t1.trans t2), s2, xr.ext (t1.trans t2), h2, fun u S3 h3 H3 t3 s3 => ⟨es, S3, E, _, er.ext ((t1.trans t2).trans t3), s3, xr.ext ((t1.trans t2).trans t3), h3, fun o S4 h4 H4 t4 s4 => ?_⟩⟩⟩⟩
    cases v1 with
    | ref a =>
      obtain ⟨xs, hc, n0, hz, h5⟩ := h4
      obtain ⟨ys, sq, r⟩ := CRep.sql s4 hc
      have rp : VReps X.K H4 (pickG xs l u o) (pickG ys l u o) := by
        unfold pickG
        rw [r.length]
        exact vreps_pick r _
      exact ⟨a, ys, rfl, sq, n0, rp.length ▸ hz, fun q hq => newLst s4 hq rp h5 fun v S' hv H' v' t s r => k _ _ hv _ _ ((((t1.trans t2).trans t3).trans t4).trans t) s r⟩
    | _ => exact h4.elim⟩
end
end A3

set_option Elab.async false
set_option linter.all false
set_option maxRecDepth 100000
set_option maxHeartbeats 4000000
namespace A3
open PySem PySem.Spec PyProof.Rows L2
/-! ### a lambda with a parameter that has a default and is not read -/
structure LamSD (sc scope : Scope) (p : Str) : Prop where
  kind : scope.kind = .function
  co : scope.isCoroutine = false
  gen : scope.isGenerator = false
  own : ∀ y ∈ scope.names, y.2 ≠ .cell ∧ (y.2 = .local → y.1 = p)
  par : scope.names.lookup p = some .local
  free : ∀ y ∈ scope.names, y.2 = .free → sc.names.lookup y.1 = some .cell ∨ sc.names.lookup y.1 = some .free
def lamSDB (sc scope : Scope) (p : Str) : Bool :=
  decide (scope.kind = .function) && !scope.isCoroutine && !scope.isGenerator && decide (scope.names.lookup p = some .local) && scope.names.all fun y => !decide (y.2 = .cell) && (!decide (y.2 = .local) || decide (y.1 = p)) && (!decide (y.2 = .free) || decide (sc.names.lookup y.1 = some .cell) || decide (sc.names.lookup y.1 = some .free))
theorem lamSD_by {sc scope : Scope} {p : Str} (h : lamSDB sc scope p = true) : LamSD sc scope p := by
  unfold lamSDB at h
  simp only [Bool.and_eq_true, Bool.or_eq_true, Bool.not_eq_true', decide_eq_true_eq, decide_eq_false_iff_not, List.all_eq_true] at h
  obtain ⟨⟨⟨⟨h1, h2⟩, h3⟩, h5⟩, h4⟩ := h
  refine ⟨h1, h2, h3, fun y hy => ⟨(h4 y hy).1.1, fun e => (h4 y hy).1.2.elim (fun z => absurd e z) fun z => z⟩, h5, fun y hy e => ?_⟩
  rcases (h4 y hy).2 with (z | z) | z
  · exact absurd e z
  · exact .inl z
  · exact .inr z
theorem LamSD.has {X : Cx} {scope : Scope} {p : Str} (L : LamSD X.env.scope scope p) (ok : X.Ok) : ∀ y ∈ scope.names, y.2 = .free → ∃ c, X.env.cells.lookup y.1 = some c := fun y hy e => by
  rcases L.free y hy e with k | k
  · exact ok.has _ (.inl k)
  · exact ok.has _ (.inr k)
section
variable {X : Cx} {pins : List (Addr × Obj)} {σ : L2.St} {H HZ : Hp} {s s1 : Shared}
theorem lam_tailD {T : List (Addr × Str)} {c P : Addr} {params : Arguments} {body : Expr} {scope : Scope} {pos : Pos} {t : Addr} {v : Value} {E : Value → Shared → Prop} {Q : Value → Shared → Prop} (I : Inv X pins σ H s) (TB : LamX.TabB X.base X.mg c P) (hcode : X.env.code = .ref c)
    (hm : (P, X.env.qual ++ "<lambda>") ∈ T) (hu : ∀ p ∈ T, p.1 = P → p.2 = X.env.qual ++ "<lambda>") (hT : LamX.Tabs T H) (hfree : ∀ y ∈ scope.names, y.2 = .free → ∃ c, X.env.cells.lookup y.1 = some c)
    (ht0 : s.heap.get? t = some (PySem.W.kdv_tup [v])) (hn0 : H t = none)
    (h : ∀ (f c' : Addr) (pm ctv doc : Value) (H1 : Hp) (s' : Shared), Inv X pins σ H1 s' → LamX.ExtN H H1 → LamX.Tabs T H1 →
      s'.heap.get? f = some (PySem.W.kdv_obj "<lambda>" (X.env.qual ++ "<lambda>") params (.expr body) scope (cloFrom X.env.cells scope.names []) (.ref t) doc pm c' ctv) → H1 f = none → f ∉ frs X.stack →
      s'.heap.get? t = some (PySem.W.kdv_tup [v]) → H1 t = none → H1 c' = some (LamX.CodeO c' (X.env.qual ++ "<lambda>")) → Q (.ref f) s') :
    wpAny (model X.prog X.w) X.A (makeTail "<lambda>" (X.env.qual ++ "<lambda>") params (.expr body) scope X.env (.ref t) .none none pos pos.line) Q E s := by
  obtain ⟨ps, hP, ht, ha⟩ := hT _ hm
  have bP : s.heap.BuiltinsAt X.mg P := TB.bm.keeps I.bk
  have hP' : s.heap.get? P = some { cls := .none, data := .fields ps } := I.hok P _ hP
  have ntP : t ≠ P := fun z => by
    rw [z, hP'] at ht0
    cases ht0
  have nofr : ∀ f, s.heap.objs.size ≤ f → f ∉ frs X.stack := fun f hf z => by
    rcases List.mem_cons.mp (I.stkSub _ z) with e | e
    · have h1 := I.lt
      rw [← e] at h1
      exact Nat.lt_irrefl _ (Nat.lt_of_lt_of_le h1 hf)
    · exact I.nofs hf e
  cases hc : codeAmong pos ps.toList with
  | none =>
    refine PySem.W.kdv_makeTail (mg := X.mg) (c := c) (P := P) (ps := ps) (closure_ok hfree) I.ok.glob (I.mod.glob.keeps I.bk) hcode (TB.code.keeps I.bk) hP' ht hc TB.gP bP fun c' ctv doc h' tk hx hge hlt hrec htb => ?_
    obtain ⟨c2, oc, vs, tt, e2, hoc, hd, hv⟩ := hrec
    cases e2
    have hsz : s.heap.objs.size ≤ h'.objs.size := Nat.le_trans hge (Nat.le_of_lt hlt)
    have nC : H c' = none := I.hok.fresh hge
    have I1 := LamX.inv_table (t' := tk) (more := #[rawInt pos.line, rawInt pos.col, .ref c']) (h' := h'.push (PySem.W.kdv_obj "<lambda>" (X.env.qual ++ "<lambda>") params (.expr body) scope (cloFrom X.env.cells scope.names []) (.ref t) doc ((X.mg "__name__").getD .none) c' ctv)) I hP
      (fun b o hb e => Heap.get?_push_of_some _ (hx b o hb e)) (Heap.get?_push_of_some _ htb) hge ⟨oc, vs, tt, Heap.get?_push_of_some _ hoc, hd, hv⟩
    have hE : LamX.ExtN H (upd (upd H P (.tbl (ps ++ #[rawInt pos.line, rawInt pos.col, .ref c']))) c' (LamX.CodeO c' (X.env.qual ++ "<lambda>"))) := fun b o e n => by
      rw [upd_ne (ne_of_none e nC), upd_ne (fun z => n ps (Option.some.inj (e.symm.trans (by rw [z]; exact hP))))]
      exact e
    have eL : (ps ++ #[rawInt pos.line, rawInt pos.col, .ref c']).toList = ps.toList ++ [rawInt pos.line, rawInt pos.col, .ref c'] := by simp
    have tc : t ≠ c' := Nat.ne_of_lt (Nat.lt_of_lt_of_le (Heap.lt_size ht0) hge)
    refine h h'.objs.size c' ((X.mg "__name__").getD .none) ctv doc _ _ I1 hE (fun p hp => ?_) (Heap.get?_push_size _ rfl) ?_ (nofr _ hsz) (Heap.get?_push_of_some _ (hx _ _ ntP ht0)) (by rw [upd_ne tc, upd_ne ntP]; exact hn0) upd_same
    · by_cases hb : p.1 = P
      · rw [hu p hp hb, hb]
        refine ⟨_, by rw [upd_ne (ne_of_none hP nC), upd_same], by rw [eL]; exact PySem.TriplesOk_snoc _ _ _ _ ht, fun p' cv hcv => ?_⟩
        rw [eL] at hcv
        rcases LamX.among_app _ ht hcv with z | z
        · obtain ⟨c0, e1, e2⟩ := ha p' cv z
          exact ⟨c0, e1, hE _ _ e2 LamX.codeO_ne⟩
        · exact ⟨c', z, upd_same⟩
      · obtain ⟨ps', a1, a2, a3⟩ := hT p hp
        refine ⟨ps', by rw [upd_ne (ne_of_none a1 nC), upd_ne hb]; exact a1, a2, fun p' cv hcv => ?_⟩
        obtain ⟨c0, e1, e2⟩ := a3 p' cv hcv
        exact ⟨c0, e1, hE _ _ e2 LamX.codeO_ne⟩
    · have n1 : h'.objs.size ≠ c' := Nat.ne_of_gt hlt
      have n2 : h'.objs.size ≠ P := Nat.ne_of_gt (Nat.lt_of_lt_of_le (Heap.lt_size hP') hsz)
      rw [upd_ne n1, upd_ne n2]
      exact I.hok.fresh hsz
  | some cv =>
    obtain ⟨c', e, hco⟩ := ha pos cv hc
    subst e
    refine PySem.W.kdv_makeTailHit (mg := X.mg) (c := c) (P := P) (ps := ps) (closure_ok hfree) I.ok.glob (I.mod.glob.keeps I.bk) hcode (TB.code.keeps I.bk) hP' ht hc bP fun ctv doc h' tk hx hsz => ?_
    have I1 : Inv X pins σ H { s with heap := h'.push (PySem.W.kdv_obj "<lambda>" (X.env.qual ++ "<lambda>") params (.expr body) scope (cloFrom X.env.cells scope.names []) (.ref t) doc ((X.mg "__name__").getD .none) c' ctv), toks := tk } := I.kept fun b o e => Heap.get?_push_of_some _ (hx b o e)
    exact h h'.objs.size c' ((X.mg "__name__").getD .none) ctv doc H _ I1 (LamX.ExtN.refl H) hT (Heap.get?_push_size _ rfl) (I.hok.fresh hsz) (nofr _ hsz) (Heap.get?_push_of_some _ (hx _ _ ht0)) hn0 hco
theorem lam_makeD {T : List (Addr × Str)} {c P : Addr} {params : Arguments} {body : Expr} {scope : Scope} {pos : Pos} {pp : Str} {i : Int} {kk pk} {E : Value → Shared → Prop} {Q : Value → Shared → Prop} (I : Inv X pins σ H s) (TB : LamX.TabB X.base X.mg c P) (hcode : X.env.code = .ref c)
    (hm : (P, X.env.qual ++ "<lambda>") ∈ T) (hu : ∀ p ∈ T, p.1 = P → p.2 = X.env.qual ++ "<lambda>") (hT : LamX.Tabs T H) (hdef : params.defaults = [.Constant (.int i) kk pk]) (hk0 : params.kw_defaults = []) (hfree : ∀ y ∈ scope.names, y.2 = .free → ∃ c, X.env.cells.lookup y.1 = some c)
    (h : ∀ (f c' t : Addr) (v pm ctv doc : Value) (H1 : Hp) (s' : Shared), Inv X pins σ H1 s' → LamX.ExtN H H1 → LamX.Tabs T H1 →
      s'.heap.get? f = some (PySem.W.kdv_obj "<lambda>" (X.env.qual ++ "<lambda>") params (.expr body) scope (cloFrom X.env.cells scope.names []) (.ref t) doc pm c' ctv) → H1 f = none → f ∉ frs X.stack →
      s'.heap.get? t = some (PySem.W.kdv_tup [v]) → H1 t = none → t ∉ frs X.stack → H1 c' = some (LamX.CodeO c' (X.env.qual ++ "<lambda>")) → Q (.ref f) s') :
    wpAny (model X.prog X.w) X.A (eval (.Lambda params body scope pos) X.env) Q E s := by
  refine PySem.W.kdv_lam (by rw [hdef]; rfl) hk0 ?_
  rw [hdef]
  refine PySem.W.kdv_all1 (wpAny_Constant_int (PySem.W.kdv_all0 ?_))
  rw [makeFunction_eq]
  simp only [List.zip_nil_right, List.filterMap_nil, List.isEmpty_nil, if_true, pure_bind, List.isEmpty_cons, Bool.false_eq_true, if_false]
  refine wpAny_bind (wpAny_newTextTuple ?_)
  dsimp only
  generalize (Value.int i _) = v
  have hfresh : H s.heap.objs.size = none := I.hok.fresh (Nat.le_refl _)
  have hp0 : (s.heap.push (PySem.W.kdv_tup [v])).get? s.heap.objs.size = some (PySem.W.kdv_tup [v]) := Heap.get?_push_size _ rfl
  have nofr0 : s.heap.objs.size ∉ frs X.stack := fun z => by
    rcases List.mem_cons.mp (I.stkSub _ z) with e | e
    · have h1 := I.lt
      rw [← e] at h1
      exact Nat.lt_irrefl _ h1
    · exact I.nofs (Nat.le_refl _) e
  have I2 : ∀ tk : Nat, Inv X pins σ H { s with heap := s.heap.push (PySem.W.kdv_tup [v]), toks := tk } := fun tk => I.kept fun b o e => Heap.get?_push_of_some _ e
  exact lam_tailD (I2 _) TB hcode hm hu hT hfree hp0 hfresh fun f c' pm ctv doc H1 s' a1 a2 a3 a4 a5 a6 a7 a8 a9 => h f c' _ v pm ctv doc H1 s' a1 a2 a3 a4 a5 a6 a7 a8 nofr0 a9
theorem lam_startD {A : Around} {outer : List Env} {E : XK} {scope : Scope} {f c' : Addr} {h₁ : Heap} {tk : Nat} {pp : Str} {v : Value} (I : Inv X pins σ H s) (L : LamSD X.env.scope scope pp) (hN : pp ∉ X.N) (e0 : Env0 X.prog X.w X.K X.mg X.base A outer s1 HZ) (hd : A.handled = none)
    (un : Un (frs X.stack) [] H HZ s.heap s1.heap) (hns : h₁.Ns s1.heap.objs.size fun y => ([(pp, v)] : List (Str × Value)).reverse.lookup y) (kp : ∀ b o, s1.heap.get? b = some o → h₁.get? b = some o) :
    Inv (LamX.lamCx X A outer s1 HZ E scope f c') [] σ HZ { s1 with heap := h₁, toks := tk } := by
  have hfree := L.has I.ok
  have cm : ∀ {y c}, (cloFrom X.env.cells scope.names []).lookup y = some c → X.env.cells.lookup y = some c := fun {y c} e => by
    rcases cloFrom_mem (PySem.mem_of_lookup e) with hm | ⟨h1, h2⟩
    · cases hm
    · obtain ⟨c1, hc⟩ := hfree _ h1 rfl
      have hc : X.env.cells.lookup y = some c1 := hc
      have e2 : c = c1 := by
        rw [h2, hc] <;> rfl
      rw [e2]
      exact hc
  have look : ∀ {y}, scope.names.lookup y = some .free → ∃ c, (cloFrom X.env.cells scope.names []).lookup y = some c := fun {y} hl => by
    have hy : (y, NameKind.free) ∈ scope.names := PySem.mem_of_lookup hl
    exact mem_lookup (cloFrom_has (cells := X.env.cells) (acc := []) hy)
  have cellK : ∀ {c : Addr} {v : Option Value}, H c = none → s.heap.IsCell c v → h₁.IsCell c v := fun {c v} n ⟨o, ho, hd⟩ => by
    obtain ⟨sl, q⟩ := un.any ho n (by simp)
    exact ⟨_, kp _ _ q, hd⟩
  have noA : ∀ b : Addr, b ∉ (LamX.lamCx X A outer s1 HZ E scope f c').ex := fun b z => absurd (show b ∈ ([] : List Addr) from z) (by simp)
  refine ⟨⟨e0.mod, L.kind, rfl, rfl, Nat.le_refl _, fun y z c e1 e2 => I.ok.inj y z c (cm e1) (cm e2), fun y hy => ?_, fun y c z _ => ?_, fun _ => hd, Around.frames_deeper e0.frames, .inr ⟨rfl, rfl⟩, fun b z => absurd z (noA b), e0.bs, e0.bsz, fun b _ _ => noA b,
      fun b z => absurd z (noA b), e0.funs, e0.frf⟩,
    rfl, e0.bare, Un.kept kp, ⟨_, hns, fun i y v e1 e2 e3 => ?_⟩, fun y c e => ?_, e0.hok.fresh (Nat.le_refl _), fun y c e => ?_, fun q hq => absurd (show q ∈ ([] : List (Addr × Obj)) ++ [] from hq) (by simp), e0.hok.kept kp, I.len⟩
  · have hy : scope.names.lookup y = some .cell ∨ scope.names.lookup y = some .free := hy
    rcases hy with hy | hy
    · exact absurd rfl (L.own _ (PySem.mem_of_lookup hy)).1
    · exact look hy
  · have z : false = true := z
    cases z
  · have e3 : Vis scope y := e3
    rcases e3 with k | k | k
    · have hy := (L.own _ (PySem.mem_of_lookup k)).2 rfl
      have hy : y = pp := hy
      subst hy
      exact absurd (List.mem_of_getElem? (show X.N[i]? = some y from e1)) hN
    · exact absurd rfl (L.own _ (PySem.mem_of_lookup k)).1
    · obtain ⟨m, hn, hl⟩ := I.loc
      have hvis : Vis X.env.scope y := (L.free _ (PySem.mem_of_lookup k) rfl).elim (fun k => .inr (.inl k)) (fun k => .inr (.inr k))
      obtain ⟨w', r, q⟩ := hl i y v e1 e2 hvis
      obtain ⟨c2, h2⟩ := look k
      refine ⟨w', r, .inr ⟨.inr k, c2, h2, ?_⟩⟩
      have c1 := cm h2
      rcases q with ⟨k', _⟩ | ⟨_, c3, e', z⟩
      · have k' : X.env.scope.names.lookup y = some .local := k'
        rcases L.free _ (PySem.mem_of_lookup k) rfl with k2 | k2 <;> rw [show X.env.scope.names.lookup y = _ from k2] at k' <;> cases k'
      · rw [c1] at e'
        cases e'
        exact cellK (I.freeC y _ c1) z
  · obtain ⟨w', z⟩ := I.cell y c (cm e)
    exact ⟨w', cellK (I.freeC y c (cm e)) z⟩
  · obtain ⟨v, o, ho, hd⟩ := I.cell y c (cm e)
    exact un.free c o ho (I.freeC y c (cm e)) (by simp)
end
section
variable {X : Cx} {T : Tb} {W : WX}
/-- the call, in that def -/
theorem ie_actD {pins : List (Addr × Obj)} {σ : St} {H : Hp} {s : Shared} {Ng : List Str} {qg : Str} {sg : Scope} {g f c' : Addr} {cdg pm ctv doc dv : Value} {td : Addr} {pp : Str} {params : Arguments} {body : Expr} {scope : Scope} {k : Nat} {a : Str} {pn : List (Addr × Obj)} {xe : Value → Shared → Prop} {ab : AE} {p1 p2 : Pos}
    (I : Inv X pins σ H s) (L : LamSD X.env.scope scope pp) (hNp : pp ∉ X.N)
    (hf : s.heap.get? f = some (PySem.W.kdv_obj "<lambda>" (X.env.qual ++ "<lambda>") params (.expr body) scope (cloFrom X.env.cells scope.names []) (.ref td) doc pm c' ctv)) (ht : s.heap.get? td = some (PySem.W.kdv_tup [dv])) (htn : H td = none) (htr : td ∉ frs X.stack) (hfn : H f = none) (hfr : f ∉ frs X.stack)
    (hbind : ∀ (q : Str) (cl : List (Str × Addr)) (t : Addr) (v doc pm cv ctv : Value), ∃ k : Option (Array Value) → Sem (List (Str × Value)),
      bindArgs (PySem.W.kdv_fn "<lambda>" q params (.expr body) scope cl (.ref t) doc pm cv ctv) ⟨[], []⟩ = seqItems? (.ref t) >>= k ∧ k (some #[v]) = pure [(pp, v)])
    (tk : Takes ((zCx X Ng qg sg g cdg s H).tr pn xe) W) (hr : Room (k + 1) (X.A.deeper (envOfC qg sg s.heap.objs.size g cdg)))
    (hbody : ∀ (A : Around) (outer : List Env) (s : Shared) (H : Hp) (E : XK), Room k (A.deeper (LamX.lamEnv X scope s.heap.objs.size f c')) → IE (LamX.lamCx X A outer s H E scope f c') T (fun cls d _ H => E cls d H) body ab)
    (hN : Ng[0]? = some a) (hv : Vis sg a) (hd : (a == ("__debug__" : Str)) = false) (hcd : (a == ("__classdict__" : Str)) = false) :
    IE ((zCx X Ng qg sg g cdg s H).tr pn xe) T W (.Call (.Name a p1) [] [] p2) (aAct f c' (X.env.qual ++ "<lambda>") σ ab) := ⟨⟨fun pinsZ sZ σZ HZ Q IZ h => by
  obtain ⟨esZ, SZ, EZ, R, er, sr, xr, ⟨h0, es0, hS, hab⟩, kq⟩ := h
  obtain ⟨y0, hs, ry⟩ := er.get 0 _ h0
  cases ry
  obtain ⟨hc, er0⟩ := sr.cell c' _ hS
  refine wpAny_Call_Name_kw (thn ((pe_var (pos := p1) (i := 0) hN hv hd hcd).run pinsZ sZ σZ HZ (fun v H1 => v = .ref f ∧ H1 = HZ) IZ ⟨.ref f, hs, rfl, rfl⟩) fun u s1 hu => ?_)
  obtain ⟨v, H1, I1, r1, ev, eH⟩ := hu
  subst ev
  rw [eH] at I1
  have eu : u = Value.ref f := r1
  subst eu
  have of1 := I1.base.keep f _ hf hfn hfr (fun z => nomatch (show f ∈ ([] : List Addr) from z))
  refine PySem.W.callWith_F0 ⟨_, _, _, _, of1⟩ ?_
  have un : Un (frs X.stack) [] H HZ s.heap s1.heap := I1.base
  obtain ⟨⟨oc, vs, t, hoc, hdc, hvc⟩, _, _⟩ := I1.hok c' _ hc
  refine wpAny_call (codeAny_mono (R := CR (L2.CX X.prog X.w) (envOfC qg sg s.heap.objs.size g cdg :: X.stack) X.prog X.w HZ s1 Q (fun cls d H' => W cls d σZ H')) ?rc fun r s' hq => ?fin)
  case rc =>
    show codeAny _ _ (.call (.ref f) ⟨[], []⟩) _ _
    refine PySem.W.kla_callFunE hr.depth of1 rfl L.co L.gen rfl ⟨c', oc, vs, t, rfl, hoc, hdc, hvc⟩ ?_
    have ot1 := I1.base.keep td _ ht htn htr (fun z => nomatch (show td ∈ ([] : List Addr) from z))
    obtain ⟨kk, hb1, hb2⟩ := hbind (X.env.qual ++ "<lambda>") (cloFrom X.env.cells scope.names []) td dv doc pm (.ref c') ctv
    refine (BindsTo.of_defaults (binds := [(pp, dv)]) rfl ot1 rfl hb1 hb2) _ _ _ _ ?_
    refine wpAny_newFunctionEnv (fun y hy => (L.own y hy).1) (fun y hy => by rw [List.mem_singleton.mp hy]; exact L.par) (fun h₁ hns hsb => ⟨I1.nolimit.fresh _ hsb, ?_⟩) L.kind
    show codeAny _ _ (.expr body (LamX.lamEnv X scope s1.heap.objs.size f c')) _ _
    have kp : ∀ b o, s1.heap.get? b = some o → h₁.get? b = some o := fun b o e => hsb.extBut b o (Nat.ne_of_lt (Heap.lt_size e)) (Heap.get?_push_of_some _ e)
    have J : Inv (LamX.lamCx X (X.A.deeper (envOfC qg sg s.heap.objs.size g cdg)) (envOfC qg sg s.heap.objs.size g cdg :: X.stack) s1 HZ (fun cls d H' => W cls d σZ H') scope f c') [] σ HZ
        { s1 with heap := h₁, toks := s1.toks + ([(pp, dv)] : List (Str × Value)).length } := lam_startD I L hNp I1.env0 hr.hd un hns kp
    refine PySem.W.kla_codeExpr (wpAny_mono ((hbody _ _ s1 HZ _ (hr.deeper _)).r.run [] _ _ HZ Q J ⟨es0, SZ, EZ, R, er0, sr, fun x S' hx H' d t' s' dq => xr x S' hx H' d t' s' dq, hab, kq⟩) (fun v s' hq => ?_) fun e s' hq => hq)
    obtain ⟨w', H', J', rv, z⟩ := hq
    exact ⟨w', H', J'.os, J'.bare, J'.base, J'.hok, rv, z⟩
  case fin =>
    cases r with
    | error e => exact tk e s' (XE.of_call I1 (fun _ _ _ h => h) hq)
    | ok fl =>
      cases fl with
      | ret u => exact I1.after hq
      | next => exact False.elim hq
      | brk => exact False.elim hq
      | cont => exact False.elim hq⟩⟩
/-- x(lambda: body); what was known stays -/
theorem ie_lamD2 {x a : Str} {g c P : Addr} {k : Nat} {pg : Arguments} {bg : List Stmt} {sg : Scope} {dV kV doc pm cdv ct oc : Value} {an od : Option Addr} {osl : Array (Option Value)} {Ng : List Str}
    {params : Arguments} {body : Expr} {scope : Scope} {ab : AE} {rd : AE → AS} {p lpos pos : Pos} {pp : Str} {ci : Int} {ck : Nat} {cpos : Pos} (hg : Gl X x) (hm : X.mg x = some (.ref g)) (hk : PySem.W.keepIn X.K (.ref g) = true)
    (lk : X.K.lookup g = some ⟨oc, od, .func (PySem.W.fnOf x x pg bg sg dV kV doc pm an cdv ct), osl⟩) (hcg : PySem.W.codeIn X.K cdv x = true)
    (hb : L2.Binds X.K (PySem.W.fnOf x x pg bg sg dV kV doc pm an cdv ct) [a] []) (Sg : FnScope Ng [a] sg) (hNg : Ng[0]? = some a) (hva : Vis sg a)
    (hG : GivesA X T Ng x sg g cdv bg a rd)
    (TB : LamX.TabB X.base X.mg c P) (hcode : X.env.code = .ref c) (hmT : (P, X.env.qual ++ "<lambda>") ∈ T) (hu : ∀ p ∈ T, p.1 = P → p.2 = X.env.qual ++ "<lambda>")
    (hr : Room (k + 2) X.A) (L : LamSD X.env.scope scope pp) (hNp : pp ∉ X.N) (hdef : params.defaults = [.Constant (.int ci) ck cpos]) (hk0 : params.kw_defaults = [])
    (hbind : ∀ (q : Str) (cl : List (Str × Addr)) (t : Addr) (v doc pm cv ctv : Value), ∃ k : Option (Array Value) → Sem (List (Str × Value)),
      bindArgs (PySem.W.kdv_fn "<lambda>" q params (.expr body) scope cl (.ref t) doc pm cv ctv) ⟨[], []⟩ = seqItems? (.ref t) >>= k ∧ k (some #[v]) = pure [(pp, v)])
    (hbody : ∀ (A : Around) (outer : List Env) (s : Shared) (H : Hp) (E : XK) (f c' : Addr), Room k (A.deeper (LamX.lamEnv X scope s.heap.objs.size f c')) → IE (LamX.lamCx X A outer s H E scope f c') T (fun cls d _ H => E cls d H) body ab)
    (hdb : (x == ("__debug__" : Str)) = false := by decide)
    (hd : (a == ("__debug__" : Str)) = false := by decide)
    (hcd : (a == ("__classdict__" : Str)) = false := by decide) :
    IE X T W (.Call (.Name x p) [.Lambda params body scope lpos] [] pos) (aLam2 Ng (X.env.qual ++ "<lambda>") rd ab) := ⟨⟨fun pins s σ H Q I h => by
  obtain ⟨es, S, E, R, er, sr, xr, h, kq⟩ := h
  refine wpAny_Call_Name_kw (ld_glob I hg hm ?_ hdb)
  refine PySem.W.callWith_K (h₀ := X.base) I.ok.mod.kin hk ?_ (by rfl) (by rfl)
  show wpAny _ _ (spliced ((false, eval (.Lambda params body scope lpos) X.env) :: backTo pos (starEach [] X.env))) _ _ s
  refine Calls.spliced_cons (lam_makeD (pp := pp) I TB hcode hmT hu sr.tabs hdef hk0 (L.has I.ok) fun f c' td dv pm' ctv doc H1 s' I1 eN T1 hf hfn hfr htd htn htr hco => ?_)
  refine Calls.spliced_nil ⟨I1.kIn, ?_⟩
  have tx : TupX X.K H H1 := fun p ys q => eN p _ q (by simp)
  have s1 : SRep X.K T S H1 := ⟨fun a c q => by
    have cr := sr.cell a c q
    obtain ⟨o, ho, _, _, h3⟩ := cr.there
    exact cr.stay tx (by rw [ho]; exact eN a o ho h3) fun b q e => eN b _ e (by simp [LamX.CodeO]), T1⟩
  have cq : ∀ c, S c' = some c → ∃ q e s, c = .clo q e s := fun c hS => by
    have cr := s1.cell c' c hS
    cases c with
    | clo q e s => exact ⟨q, e, s, rfl⟩
    | lst xs => obtain ⟨_, e, _⟩ := cr; rw [hco] at e; simp [LamX.CodeO] at e
    | rd xs => obtain ⟨⟨_, _, e⟩, _⟩ := cr; rw [hco] at e; simp [LamX.CodeO] at e
    | ft xs => obtain ⟨_, _, e, _⟩ := cr; rw [hco] at e; simp [LamX.CodeO] at e
    | dk xs => obtain ⟨_, e, _⟩ := cr; rw [hco] at e; simp [LamX.CodeO] at e
    | dt xs => obtain ⟨_, e, _⟩ := cr; rw [hco] at e; simp [LamX.CodeO] at e
    | ins _ _ _ => obtain ⟨_, e, _⟩ := cr; rw [hco] at e; simp [LamX.CodeO] at e
    | xd _ => obtain ⟨_, e, _⟩ := cr; rw [hco] at e; simp [LamX.CodeO] at e
    | nfn _ => exact absurd (hco.symm.trans cr.1) (code_ne_fn I1.hok hco)
  have s2 : SRep X.K T (ups S c' (.clo (X.env.qual ++ "<lambda>") es σ)) H1 := s1.over ⟨hco, er.ext tx⟩
  refine wpAny_call (codeAny_mono (R := CR C8.CX0 X.stack X.prog X.w H1 s' Q C8.E0) ?rc fun r s2 hq => ?fin)
  case rc =>
    show codeAny _ _ (.call (.ref g) ⟨[.ref f], []⟩) _ _
    refine LamX.run_ofS (N := Ng) (ps := [a]) (us := [.ref f]) (vs := [.ref f]) lk hcg Sg hr.r I1.env0 (hb s' [.ref f] I1.kIn rfl) (.cons rfl .nil) rfl fun _ => ?_
    have hIS := hG (aAct f c' (X.env.qual ++ "<lambda>") σ ab) s' H1 fun W pn xe p1 p2 tk =>
      ie_actD I1 L hNp hf htd htn htr hfn hfr hbind tk (hr.deeper _) (fun A outer s H E hr2 => hbody A outer s H E f c' hr2) hNg hva hd hcd
    refine ⟨_, hIS.r.nox, astart Ng [.ref f], _, _, erep_start Ng (.cons (.ref f) .nil), s2, h f c' σ cq, ?_⟩
    have bk : ∀ {S' : Store} {H' : Hp}, TupX X.K H1 H' → SRep X.K T S' H' → (∃ e s, S' c' = some (.clo (X.env.qual ++ "<lambda>") e s)) → SRep X.K T (backS S c' S') H' := fun {S' H'} t sr' hf' => ⟨fun a c e => by
      unfold backS at e
      by_cases z : a = c'
      · rw [if_pos z] at e
        subst z
        obtain ⟨q2, e2, s2, rfl⟩ := cq c e
        obtain ⟨h1, h2⟩ := s1.cell _ _ e
        obtain ⟨e3, s3, h3⟩ := hf'
        obtain ⟨h4, _⟩ := sr'.cell _ _ h3
        exact ⟨(h4.trans hco.symm).trans h1, h2.ext t⟩
      · rw [if_neg z] at e
        exact sr'.cell a c e, sr'.tabs⟩
    exact { nx := fun _ S' hq σ' H' t _ s => kq _ _ hq.2 _ _ (tx.trans t) (bk t s hq.1) .non, rt := fun v S' hq H' v' t s r => kq _ _ hq.2 _ _ (tx.trans t) (bk t s hq.1) r, bk := fun _ _ h => h.elim, ct := fun _ _ h => h.elim, ex := fun _ _ _ h => h.elim }
  case fin =>
    cases r with
    | error e => exact (show False from hq).elim
    | ok fl =>
      cases fl with
      | ret u => exact I1.after hq
      | next => exact False.elim hq
      | brk => exact False.elim hq
      | cont => exact False.elim hq⟩⟩
end
/-- x(lambda p=i: body), x a def of the top -/
theorem ie_lamAD {X : Cx} {T : Tb} {W : WX} {x a q : Str} {c P : Addr} {k : Nat} {st : Stmt} {Ng : List Str} {params : Arguments} {body : Expr} {scope : Scope} {ab : AE} {rd : AE → AS} {p lpos pos : Pos} {pp : Str} {ci : Int} {ck : Nat} {cpos : Pos}
    (D : DefA X.K X.mg x st) (hg : Gl X x) (Sg : FnScope Ng [a] (defScope st)) (hNg : Ng[0]? = some a) (hva : Vis (defScope st) a)
    (hbd : ∀ (kV doc pm : Value) (an : Option Addr) (cdv ct : Value) (us : List Value), us.length = [a].length → bindArgs (PySem.W.fnOf x x (defArgs st) (defBody st) (defScope st) .none kV doc pm an cdv ct) ⟨us, []⟩ = pure ([a].zip us))
    (hG : ∀ (g : Addr) (cdv : Value), GivesA X T Ng x (defScope st) g cdv (defBody st) a rd)
    (TB : LamX.TabB X.base X.mg c P) (hcode : X.env.code = .ref c) (hq : X.env.qual ++ "<lambda>" = q) (hmT : (P, q) ∈ T) (hu : ∀ p ∈ T, p.1 = P → p.2 = q)
    (hr : Room (k + 2) X.A) (L : LamSD X.env.scope scope pp) (hNp : pp ∉ X.N) (hdef : params.defaults = [.Constant (.int ci) ck cpos]) (hk0 : params.kw_defaults = [])
    (hbind : ∀ (q : Str) (cl : List (Str × Addr)) (t : Addr) (v doc pm cv ctv : Value), ∃ k : Option (Array Value) → Sem (List (Str × Value)),
      bindArgs (PySem.W.kdv_fn "<lambda>" q params (.expr body) scope cl (.ref t) doc pm cv ctv) ⟨[], []⟩ = seqItems? (.ref t) >>= k ∧ k (some #[v]) = pure [(pp, v)])
    (hbody : ∀ (A : Around) (outer : List Env) (s : Shared) (H : Hp) (E : XK) (f c' : Addr), Room k (A.deeper (LamX.lamEnv X scope s.heap.objs.size f c')) → IE (LamX.lamCx X A outer s H E scope f c') T (fun cls d _ H => E cls d H) body ab)
    (hdb : (x == ("__debug__" : Str)) = false := by decide)
    (hd : (a == ("__debug__" : Str)) = false := by decide)
    (hcd : (a == ("__classdict__" : Str)) = false := by decide) :
    IE X T W (.Call (.Name x p) [.Lambda params body scope lpos] [] pos) (aLam2 Ng q rd ab) := by
  subst hq
  obtain ⟨oc, od, kV, doc, pm, an, ct, osl, lk, hcd2⟩ := D.ex
  exact ie_lamD2 hg D.gm D.kp lk hcd2 (D.binds hbd lk) Sg hNg hva (hG _ _) TB hcode hmT hu hr L hNp hdef hk0 hbind hbody hdb hd hcd
/-! ### == and != of deep data -/
def wideD (d : PyData) : Bool := d.canLay0 && decide (d.depth ≤ 190)
def rEqW (K : PySem.W.Frag) (ne : Bool) : V → V → Hp → VK → Prop := fun x y H Q => ∃ d e, Dp K H x d ∧ Dp K H y e ∧ wideD d = true ∧ wideD e = true ∧ Q (.bl (if ne = true then !PyData.eqv d e else PyData.eqv d e)) H
def eqW : A2 := fun x y S R => match scalA x y with
  | some b => R (.bl b) S
  | none => ∃ d e, DRel S x d ∧ DRel S y e ∧ wideD d = true ∧ wideD e = true ∧ R (.bl (PyData.eqv d e)) S
def neW : A2 := fun x y S R => match scalA x y with
  | some b => R (.bl (!b)) S
  | none => ∃ d e, DRel S x d ∧ DRel S y e ∧ wideD d = true ∧ wideD e = true ∧ R (.bl (!PyData.eqv d e)) S
section
variable {X : Cx} {T : Tb}
theorem wide_ok {A : Around} {d e : PyData} (h : wideD d = true) (hu : A.units + 200 < cLine) : d.canLay0 = true ∧ A.units + min d.depth e.depth < cLine := by
  unfold wideD at h
  rw [Bool.and_eq_true, decide_eq_true_eq] at h
  have := Nat.min_le_left d.depth e.depth
  exact ⟨h.1, by omega⟩
theorem op_eqW (hu : X.A.units + 200 < cLine) : OpR X (compareOp .Eq) (rEqW X.K false) := by
  intro pins s σ H x y v u Q I rx ry h
  obtain ⟨d, e, hd, he, sd, se, q⟩ := h
  obtain ⟨as, r1⟩ := Dp.reads I d x v hd rx
  obtain ⟨bs, r2⟩ := Dp.reads I e y u he ry
  exact SeqAt.compareEq_reads r1 r2 (wide_ok (e := e) sd hu).1 (wide_ok (e := e) se hu).1 (wide_ok sd hu).2 ⟨.bl _, H, I, rfl, q⟩
theorem op_neW (hu : X.A.units + 200 < cLine) : OpR X (compareOp .NotEq) (rEqW X.K true) := by
  intro pins s σ H x y v u Q I rx ry h
  obtain ⟨d, e, hd, he, sd, se, q⟩ := h
  obtain ⟨as, r1⟩ := Dp.reads I d x v hd rx
  obtain ⟨bs, r2⟩ := Dp.reads I e y u he ry
  exact SeqAt.compareNe_reads r1 r2 (wide_ok (e := e) sd hu).1 (wide_ok (e := e) se hu).1 (wide_ok sd hu).2 ⟨.bl _, H, I, rfl, q⟩
theorem oA_eqW (hu : X.A.units + 200 < cLine) : OpR X (compareOp .Eq) (low2 X.K T eqW) := opA fun x y S R x' y' H Q vx vy sr q k => by
  unfold eqW at q
  split at q
  · rename_i b e
    obtain ⟨h1, h2⟩ := scalA_ok vx vy e
    exact ⟨_, op_eq, h1, by rw [h2]; exact k _ _ q H _ (.refl H) sr (.bl _)⟩
  · obtain ⟨d, e, h1, h2, h3, h4, q⟩ := q
    exact ⟨_, op_eqW hu, d, e, h1.dp sr vx, h2.dp sr vy, h3, h4, k _ _ q H _ (.refl H) sr (.bl _)⟩
theorem oA_neW (hu : X.A.units + 200 < cLine) : OpR X (compareOp .NotEq) (low2 X.K T neW) := opA fun x y S R x' y' H Q vx vy sr q k => by
  unfold neW at q
  split at q
  · rename_i b e
    obtain ⟨h1, h2⟩ := scalA_ok vx vy e
    exact ⟨_, op_ne, h1, by rw [h2]; exact k _ _ q H _ (.refl H) sr (.bl _)⟩
  · obtain ⟨d, e, h1, h2, h3, h4, q⟩ := q
    exact ⟨_, op_neW hu, d, e, h1.dp sr vx, h2.dp sr vy, h3, h4, k _ _ q H _ (.refl H) sr (.bl _)⟩
end
end A3

set_option Elab.async false
set_option linter.all false
set_option maxRecDepth 100000
set_option maxHeartbeats 4000000
namespace G
open PySem PySem.Spec PyProof.Rows L2 A3
def top (i : Nat) : Stmt := PySem.Challenge.pw_withterms_k19_whole_steps_at_the_head.main.body.getD i (.Pass ⟨0, 0, 0, 0⟩)
abbrev s_is_integer : Stmt := top 7
abbrev N_is_integer : List Str := ["thing"]
theorem sc_is_integer : FnScope N_is_integer ["thing"] (defScope s_is_integer) := ⟨rfl, rfl, rfl, by decide +kernel, rfl, by decide +kernel, by decide +kernel⟩
abbrev s_is_name : Stmt := top 8
abbrev N_is_name : List Str := ["thing", "sign"]
theorem sc_is_name : FnScope N_is_name ["thing"] (defScope s_is_name) := ⟨rfl, rfl, rfl, by decide +kernel, rfl, by decide +kernel, by decide +kernel⟩
abbrev s_is_tuple : Stmt := top 9
abbrev N_is_tuple : List Str := ["thing", "size"]
theorem sc_is_tuple : FnScope N_is_tuple ["thing", "size"] (defScope s_is_tuple) := ⟨rfl, rfl, rfl, by decide +kernel, rfl, by decide +kernel, by decide +kernel⟩
abbrev s_is_headed : Stmt := top 10
abbrev N_is_headed : List Str := ["thing", "word", "size"]
theorem sc_is_headed : FnScope N_is_headed ["thing", "word", "size"] (defScope s_is_headed) := ⟨rfl, rfl, rfl, by decide +kernel, rfl, by decide +kernel, by decide +kernel⟩
abbrev s_name_at : Stmt := top 11
abbrev N_name_at : List Str := ["number", "found", "left"]
theorem sc_name_at : FnScope N_name_at ["number"] (defScope s_name_at) := ⟨rfl, rfl, rfl, by decide +kernel, rfl, by decide +kernel, by decide +kernel⟩
abbrev s_forms_of : Stmt := top 19
abbrev N_forms_of : List Str := ["thing"]
theorem sc_forms_of : FnScope N_forms_of ["thing"] (defScope s_forms_of) := ⟨rfl, rfl, rfl, by decide +kernel, rfl, by decide +kernel, by decide +kernel⟩
abbrev s_is_term : Stmt := top 20
abbrev N_is_term : List Str := ["thing", "waiting", "many", "part", "deep", "inner", "is_right", "one"]
theorem sc_is_term : FnScope N_is_term ["thing"] (defScope s_is_term) := ⟨rfl, rfl, rfl, by decide +kernel, rfl, by decide +kernel, by decide +kernel⟩
abbrev s_check_term : Stmt := top 21
abbrev N_check_term : List Str := ["thing"]
theorem sc_check_term : FnScope N_check_term ["thing"] (defScope s_check_term) := ⟨rfl, rfl, rfl, by decide +kernel, rfl, by decide +kernel, by decide +kernel⟩
abbrev s_raw_indexed : Stmt := top 22
abbrev N_raw_indexed : List Str := ["term", "found", "waiting", "done", "path", "part", "bound"]
theorem sc_raw_indexed : FnScope N_raw_indexed ["term"] (defScope s_raw_indexed) := ⟨rfl, rfl, rfl, by decide +kernel, rfl, by decide +kernel, by decide +kernel⟩
abbrev s_free_of_indexed : Stmt := top 23
abbrev N_free_of_indexed : List Str := ["thing", "found", "waiting", "part"]
theorem sc_free_of_indexed : FnScope N_free_of_indexed ["thing"] (defScope s_free_of_indexed) := ⟨rfl, rfl, rfl, by decide +kernel, rfl, by decide +kernel, by decide +kernel⟩
abbrev s_raw_named : Stmt := top 24
abbrev N_raw_named : List Str := ["thing", "taken", "names", "number", "waiting", "done", "most", "path", "part", "deep", "found"]
theorem sc_raw_named : FnScope N_raw_named ["thing"] (defScope s_raw_named) := ⟨rfl, rfl, rfl, by decide +kernel, rfl, by decide +kernel, by decide +kernel⟩
abbrev s_parts_of : Stmt := top 25
abbrev N_parts_of : List Str := ["thing", "found", "spot", "path", "part", "deep", "more", "place", "one"]
theorem sc_parts_of : FnScope N_parts_of ["thing"] (defScope s_parts_of) := ⟨rfl, rfl, rfl, by decide +kernel, rfl, by decide +kernel, by decide +kernel⟩
abbrev s_changed : Stmt := top 26
abbrev N_changed : List Str := ["thing", "change", "known", "path", "part", "deep"]
theorem sc_changed : FnScope N_changed ["thing", "change"] (defScope s_changed) := ⟨rfl, rfl, rfl, by decide +kernel, rfl, by decide +kernel, by decide +kernel⟩
abbrev s_moved : Stmt := top 27
abbrev N_moved : List Str := ["thing", "by", "change"]
theorem sc_moved : FnScope N_moved ["thing", "by"] (defScope s_moved) := ⟨rfl, rfl, rfl, by decide +kernel, rfl, by decide +kernel, by decide +kernel⟩
abbrev n_moved__change : Stmt := (defBody s_moved).getD 0 (.Pass ⟨0, 0, 0, 0⟩)
abbrev N_moved__change : List Str := ["part", "deep", "by"]
theorem sc_moved__change : NdefX.NScope N_moved__change ["part", "deep"] ["by"] (C8.fnScope n_moved__change) := NdefX.nscope_by (by decide +kernel)
theorem nd_moved__change : NdefX.ndefB (defScope s_moved) (C8.fnScope n_moved__change) ["by"] = true := by decide +kernel
abbrev s_opened : Stmt := top 28
abbrev N_opened : List Str := ["body", "other", "change"]
theorem sc_opened : FnScope N_opened ["body", "other"] (defScope s_opened) := ⟨rfl, rfl, rfl, by decide +kernel, rfl, by decide +kernel, by decide +kernel⟩
abbrev n_opened__change : Stmt := (defBody s_opened).getD 0 (.Pass ⟨0, 0, 0, 0⟩)
abbrev N_opened__change : List Str := ["part", "deep", "other"]
theorem sc_opened__change : NdefX.NScope N_opened__change ["part", "deep"] ["other"] (C8.fnScope n_opened__change) := NdefX.nscope_by (by decide +kernel)
theorem nd_opened__change : NdefX.ndefB (defScope s_opened) (C8.fnScope n_opened__change) ["other"] = true := by decide +kernel
abbrev s_grown : Stmt := top 29
abbrev N_grown : List Str := ["thing", "some", "path", "part", "deep"]
theorem sc_grown : FnScope N_grown ["thing"] (defScope s_grown) := ⟨rfl, rfl, rfl, by decide +kernel, rfl, by decide +kernel, by decide +kernel⟩
abbrev s_is_redex : Stmt := top 31
abbrev N_is_redex : List Str := ["part"]
theorem sc_is_redex : FnScope N_is_redex ["part"] (defScope s_is_redex) := ⟨rfl, rfl, rfl, by decide +kernel, rfl, by decide +kernel, by decide +kernel⟩
abbrev s_at_path : Stmt := top 32
abbrev N_at_path : List Str := ["thing", "path", "place"]
theorem sc_at_path : FnScope N_at_path ["thing", "path"] (defScope s_at_path) := ⟨rfl, rfl, rfl, by decide +kernel, rfl, by decide +kernel, by decide +kernel⟩
abbrev s_with_at : Stmt := top 33
abbrev N_with_at : List Str := ["thing", "path", "other", "sides", "place", "found", "whole"]
theorem sc_with_at : FnScope N_with_at ["thing", "path", "other"] (defScope s_with_at) := ⟨rfl, rfl, rfl, by decide +kernel, rfl, by decide +kernel, by decide +kernel⟩
abbrev s_raw_step : Stmt := top 34
abbrev N_raw_step : List Str := ["thing", "path", "part"]
theorem sc_raw_step : FnScope N_raw_step ["thing", "path"] (defScope s_raw_step) := ⟨rfl, rfl, rfl, by decide +kernel, rfl, by decide +kernel, by decide +kernel⟩
abbrev s_head_path : Stmt := top 35
abbrev N_head_path : List Str := ["thing", "path"]
theorem sc_head_path : FnScope N_head_path ["thing"] (defScope s_head_path) := ⟨rfl, rfl, rfl, by decide +kernel, rfl, by decide +kernel, by decide +kernel⟩
abbrev s_head_told : Stmt := top 38
abbrev N_head_told : List Str := ["term", "thing", "number"]
theorem sc_head_told : FnScope N_head_told ["term"] (defScope s_head_told) := ⟨rfl, rfl, rfl, by decide +kernel, rfl, by decide +kernel, by decide +kernel⟩
abbrev s_has_head : Stmt := top 39
abbrev N_has_head : List Str := ["term"]
theorem sc_has_head : FnScope N_has_head ["term"] (defScope s_has_head) := ⟨rfl, rfl, rfl, by decide +kernel, rfl, by decide +kernel, by decide +kernel⟩
abbrev s_head_after : Stmt := top 40
abbrev N_head_after : List Str := ["term", "given", "one"]
theorem sc_head_after : FnScope N_head_after ["term", "given"] (defScope s_head_after) := ⟨rfl, rfl, rfl, by decide +kernel, rfl, by decide +kernel, by decide +kernel⟩
abbrev s__law_hand : Stmt := top 42
abbrev N__law_hand : List Str := ["script", "cells", "cell"]
theorem sc__law_hand : FnScope N__law_hand ["script"] (defScope s__law_hand) := ⟨rfl, rfl, rfl, by decide +kernel, rfl, by decide +kernel, by decide +kernel⟩
abbrev s__law_draw : Stmt := top 43
abbrev N__law_draw : List Str := ["hand", "many", "cell", "digit", "number"]
theorem sc__law_draw : FnScope N__law_draw ["hand", "many"] (defScope s__law_draw) := ⟨rfl, rfl, rfl, by decide +kernel, rfl, by decide +kernel, by decide +kernel⟩
abbrev s__law_any : Stmt := top 44
abbrev N__law_any : List Str := ["hand", "some"]
theorem sc__law_any : FnScope N__law_any ["hand", "some"] (defScope s__law_any) := ⟨rfl, rfl, rfl, by decide +kernel, rfl, by decide +kernel, by decide +kernel⟩
abbrev s__law_is : Stmt := top 45
abbrev N__law_is : List Str := ["given", "due", "one", "other"]
theorem sc__law_is : FnScope N__law_is ["given", "due"] (defScope s__law_is) := ⟨rfl, rfl, rfl, by decide +kernel, rfl, by decide +kernel, by decide +kernel⟩
abbrev s__law_word : Stmt := top 46
abbrev N__law_word : List Str := ["call", "found", "e", "flags"]
theorem sc__law_word : FnScope N__law_word ["call"] (defScope s__law_word) := ⟨rfl, rfl, rfl, by decide +kernel, rfl, by decide +kernel, by decide +kernel⟩
abbrev s__law_term : Stmt := top 47
abbrev N__law_term : List Str := ["hand", "deep", "inside", "kind", "name", "other"]
theorem sc__law_term : FnScope N__law_term ["hand", "deep", "inside"] (defScope s__law_term) := ⟨rfl, rfl, rfl, by decide +kernel, rfl, by decide +kernel, by decide +kernel⟩
abbrev s__law_indexed : Stmt := top 48
abbrev N__law_indexed : List Str := ["term", "inside"]
theorem sc__law_indexed : FnScope N__law_indexed ["term", "inside"] (defScope s__law_indexed) := ⟨rfl, rfl, rfl, by decide +kernel, rfl, by decide +kernel, by decide +kernel⟩
abbrev s__law_is_name : Stmt := top 49
abbrev N__law_is_name : List Str := ["part"]
theorem sc__law_is_name : FnScope N__law_is_name ["part"] (defScope s__law_is_name) := ⟨rfl, rfl, rfl, by decide +kernel, rfl, by decide +kernel, by decide +kernel⟩
abbrev s__law_free : Stmt := top 50
abbrev N__law_free : List Str := ["part", "found", "one"]
theorem sc__law_free : FnScope N__law_free ["part"] (defScope s__law_free) := ⟨rfl, rfl, rfl, by decide +kernel, rfl, by decide +kernel, by decide +kernel⟩
abbrev s__law_size : Stmt := top 51
abbrev N__law_size : List Str := ["part", "one"]
theorem sc__law_size : FnScope N__law_size ["part"] (defScope s__law_size) := ⟨rfl, rfl, rfl, by decide +kernel, rfl, by decide +kernel, by decide +kernel⟩
abbrev s__law_deep : Stmt := top 52
abbrev N__law_deep : List Str := ["part", "one"]
theorem sc__law_deep : FnScope N__law_deep ["part"] (defScope s__law_deep) := ⟨rfl, rfl, rfl, by decide +kernel, rfl, by decide +kernel, by decide +kernel⟩
abbrev s__law_led : Stmt := top 53
abbrev N__law_led : List Str := ["part", "names", "inside"]
theorem sc__law_led : FnScope N__law_led ["part", "names", "inside"] (defScope s__law_led) := ⟨rfl, rfl, rfl, by decide +kernel, rfl, by decide +kernel, by decide +kernel⟩
abbrev s__law_plain : Stmt := top 54
abbrev N__law_plain : List Str := ["part", "signs", "bound", "names", "first", "sign"]
theorem sc__law_plain : FnScope N__law_plain ["part"] (defScope s__law_plain) := ⟨rfl, rfl, rfl, by decide +kernel, rfl, by decide +kernel, by decide +kernel⟩
abbrev s__law_lift : Stmt := top 55
abbrev N__law_lift : List Str := ["part", "by", "least", "one"]
theorem sc__law_lift : FnScope N__law_lift ["part", "by", "least"] (defScope s__law_lift) := ⟨rfl, rfl, rfl, by decide +kernel, rfl, by decide +kernel, by decide +kernel⟩
abbrev s__law_put : Stmt := top 56
abbrev N__law_put : List Str := ["part", "other", "at", "one"]
theorem sc__law_put : FnScope N__law_put ["part", "other", "at"] (defScope s__law_put) := ⟨rfl, rfl, rfl, by decide +kernel, rfl, by decide +kernel, by decide +kernel⟩
abbrev s__law_is_step : Stmt := top 57
abbrev N__law_is_step : List Str := ["part"]
theorem sc__law_is_step : FnScope N__law_is_step ["part"] (defScope s__law_is_step) := ⟨rfl, rfl, rfl, by decide +kernel, rfl, by decide +kernel, by decide +kernel⟩
abbrev s__law_step : Stmt := top 58
abbrev N__law_step : List Str := ["part", "path", "at"]
theorem sc__law_step : FnScope N__law_step ["part", "path"] (defScope s__law_step) := ⟨rfl, rfl, rfl, by decide +kernel, rfl, by decide +kernel, by decide +kernel⟩
abbrev s__law_head : Stmt := top 59
abbrev N__law_head : List Str := ["part", "path", "here"]
theorem sc__law_head : FnScope N__law_head ["part"] (defScope s__law_head) := ⟨rfl, rfl, rfl, by decide +kernel, rfl, by decide +kernel, by decide +kernel⟩
abbrev s__law_told : Stmt := top 60
abbrev N__law_told : List Str := ["part", "most", "turn", "path"]
theorem sc__law_told : FnScope N__law_told ["part", "most"] (defScope s__law_told) := ⟨rfl, rfl, rfl, by decide +kernel, rfl, by decide +kernel, by decide +kernel⟩
abbrev s__law_term_right : Stmt := top 61
abbrev N__law_term_right : List Str := ["term", "part", "own", "due", "bound"]
theorem sc__law_term_right : FnScope N__law_term_right ["term", "part"] (defScope s__law_term_right) := ⟨rfl, rfl, rfl, by decide +kernel, rfl, by decide +kernel, by decide +kernel⟩
abbrev s__law_case_right : Stmt := top 62
abbrev N__law_case_right : List Str := ["hand", "term", "part", "given_so", "whole", "one", "own", "turn"]
theorem sc__law_case_right : FnScope N__law_case_right ["hand"] (defScope s__law_case_right) := ⟨rfl, rfl, rfl, by decide +kernel, rfl, by decide +kernel, by decide +kernel⟩
abbrev s_law : Stmt := top 63
abbrev N_law : List Str := ["script", "hand", "one", "twice", "told", "due", "given_so", "bad", "words", "turn"]
theorem sc_law : FnScope N_law ["script"] (defScope s_law) := ⟨rfl, rfl, rfl, by decide +kernel, rfl, by decide +kernel, by decide +kernel⟩
/-- the head's facts -/
structure Hd (P : Program) (w : World) (K : PySem.W.Frag) (mg : Str → Option Value) (base : Heap) (T : Tb) : Prop where
  n_isinstance : mg "isinstance" = none
  n_int : mg "int" = none
  n_bool : mg "bool" = none
  n_str : mg "str" = none
  n_len : mg "len" = none
  n_all : mg "all" = none
  n_tuple : mg "tuple" = none
  n_sorted : mg "sorted" = none
  n_max : mg "max" = none
  n_enumerate : mg "enumerate" = none
  n_abs : mg "abs" = none
  n_list : mg "list" = none
  n_zip : mg "zip" = none
  n_ValueError : mg "ValueError" = none
  n_sum : mg "sum" = none
  n_range : mg "range" = none
  i_LONGEST : ∃ t, mg "LONGEST" = some (.int 8 t)
  i_MOST_DEEP : ∃ t, mg "MOST_DEEP" = some (.int 16 t)
  i_MOST_SIZE : ∃ t, mg "MOST_SIZE" = some (.int 120 t)
  i_MOST_GROWN : ∃ t, mg "MOST_GROWN" = some (.int 2000 t)
  i_MOST_NESTED : ∃ t, mg "MOST_NESTED" = some (.int 200 t)
  i_MOST_STEPS : ∃ t, mg "MOST_STEPS" = some (.int 300 t)
  s_SMALL : ∃ t, mg "SMALL" = some (.str "abcdefghijklmnopqrstuvwxyz" t)
  s_OF : ∃ t, mg "OF" = some (.str "of" t)
  s_WITH : ∃ t, mg "WITH" = some (.str "with" t)
  e_NoTerm : Err0 K mg "NoTerm"
  g_TermError : mg "TermError" = some (.ref (He.ga K "TermError"))
  g_TooMany : mg "TooMany" = some (.ref (He.ga K "TooMany"))
  g_NoTerm : mg "NoTerm" = some (.ref (He.ga K "NoTerm"))
  te : TErr P w K mg base
  L_moved : LamX.TabB base mg (He.cT K ("moved", none)).1 (He.cT K ("moved", none)).2
  lm_moved : ((He.cT K ("moved", none)).2, ("moved.<locals>.change" : Str)) ∈ T
  lu_moved : ∀ p ∈ T, p.1 = (He.cT K ("moved", none)).2 → p.2 = ("moved.<locals>.change" : Str)
  L_opened : LamX.TabB base mg (He.cT K ("opened", none)).1 (He.cT K ("opened", none)).2
  lm_opened : ((He.cT K ("opened", none)).2, ("opened.<locals>.change" : Str)) ∈ T
  lu_opened : ∀ p ∈ T, p.1 = (He.cT K ("opened", none)).2 → p.2 = ("opened.<locals>.change" : Str)
  L_law : LamX.TabB base mg (He.cT K ("law", none)).1 (He.cT K ("law", none)).2
  lm_law : ((He.cT K ("law", none)).2, ("law.<locals>.<lambda>" : Str)) ∈ T
  lu_law : ∀ p ∈ T, p.1 = (He.cT K ("law", none)).2 → p.2 = ("law.<locals>.<lambda>" : Str)
  D_is_integer : DefA K mg "is_integer" s_is_integer
  D_is_name : DefA K mg "is_name" s_is_name
  D_is_tuple : DefA K mg "is_tuple" s_is_tuple
  D_is_headed : DefA K mg "is_headed" s_is_headed
  D_name_at : DefA K mg "name_at" s_name_at
  D_forms_of : DefA K mg "forms_of" s_forms_of
  D_is_term : DefA K mg "is_term" s_is_term
  D_check_term : DefA K mg "check_term" s_check_term
  D_raw_indexed : DefA K mg "raw_indexed" s_raw_indexed
  D_free_of_indexed : DefA K mg "free_of_indexed" s_free_of_indexed
  D_raw_named : DefA K mg "raw_named" s_raw_named
  D_parts_of : DefA K mg "parts_of" s_parts_of
  D_changed : DefA K mg "changed" s_changed
  D_moved : DefA K mg "moved" s_moved
  D_opened : DefA K mg "opened" s_opened
  D_grown : DefA K mg "grown" s_grown
  D_is_redex : DefA K mg "is_redex" s_is_redex
  D_at_path : DefA K mg "at_path" s_at_path
  D_with_at : DefA K mg "with_at" s_with_at
  D_raw_step : DefA K mg "raw_step" s_raw_step
  D_head_path : DefA K mg "head_path" s_head_path
  D_head_told : DefA K mg "head_told" s_head_told
  D_has_head : DefA K mg "has_head" s_has_head
  D_head_after : DefA K mg "head_after" s_head_after
  D__law_hand : DefA K mg "_law_hand" s__law_hand
  D__law_draw : DefA K mg "_law_draw" s__law_draw
  D__law_any : DefA K mg "_law_any" s__law_any
  D__law_is : DefA K mg "_law_is" s__law_is
  D__law_word : DefA K mg "_law_word" s__law_word
  D__law_term : DefA K mg "_law_term" s__law_term
  D__law_indexed : DefA K mg "_law_indexed" s__law_indexed
  D__law_is_name : DefA K mg "_law_is_name" s__law_is_name
  D__law_free : DefA K mg "_law_free" s__law_free
  D__law_size : DefA K mg "_law_size" s__law_size
  D__law_deep : DefA K mg "_law_deep" s__law_deep
  D__law_led : DefA K mg "_law_led" s__law_led
  D__law_plain : DefA K mg "_law_plain" s__law_plain
  D__law_lift : DefA K mg "_law_lift" s__law_lift
  D__law_put : DefA K mg "_law_put" s__law_put
  D__law_is_step : DefA K mg "_law_is_step" s__law_is_step
  D__law_step : DefA K mg "_law_step" s__law_step
  D__law_head : DefA K mg "_law_head" s__law_head
  D__law_told : DefA K mg "_law_told" s__law_told
  D__law_term_right : DefA K mg "_law_term_right" s__law_term_right
  D__law_case_right : DefA K mg "_law_case_right" s__law_case_right
  D_law : DefA K mg "law" s_law
section
variable {P : Program} {w : World} {K : PySem.W.Frag} {mg : Str → Option Value} {base : Heap} {T : Tb}
def rd_is_integer (K : PySem.W.Frag) : AS :=
  sRet (aAndV (aIsi "int" (aVar 0)) (aNotV (aIsi "bool" (aVar 0))))
theorem ok_is_integer (h : Hd P w K mg base T) {k : Nat} {A : ASp}
    (len : ∀ va S R RE, A va S R RE → va.length = 1) (pure : ∀ va S R RE, A va S R RE → rd_is_integer K { nx := fun _ S' => R .non S', rt := R, ex := fun x _ S' => RE x S' } (astart N_is_integer va) S) : CalA P w K mg base T (k + 1) "is_integer" A :=
  cal_of h.D_is_integer sc_is_integer (fun _ _ _ _ _ _ us hl => match us, hl with | [_], _ => rfl) len pure fun A outer s H E hr =>
    iss_one (is_ret (ie_and (ie_isi (by decide +kernel) (iv 0) rfl h.n_isinstance (by decide +kernel) rfl h.n_int (by decide +kernel)) (ie_one (ie_not (ie_isi (by decide +kernel) (iv 0) rfl h.n_isinstance (by decide +kernel) rfl h.n_bool (by decide +kernel))))))
def rd_is_name (K : PySem.W.Frag) : AS :=
  sRet (aAndV (aIsi "str" (aVar 0)) (aAndV (aChain leA leA (aC (.int 1)) (aCB lenC (aCons (aVar 0) (aNil))) (aC (.int 8))) (aCB allC (aCons (aLc (iStrA (aVar 0)) (tName 1) (aYes) (aOp inA (aVar 1) (aC (.str "abcdefghijklmnopqrstuvwxyz"))) [1]) (aNil)))))
theorem ok_is_name (h : Hd P w K mg base T) {k : Nat} {A : ASp}
    (len : ∀ va S R RE, A va S R RE → va.length = 1) (pure : ∀ va S R RE, A va S R RE → rd_is_name K { nx := fun _ S' => R .non S', rt := R, ex := fun x _ S' => RE x S' } (astart N_is_name va) S) : CalA P w K mg base T (k + 1) "is_name" A :=
  cal_of h.D_is_name sc_is_name (fun _ _ _ _ _ _ us hl => match us, hl with | [_], _ => rfl) len pure fun A outer s H E hr =>
    iss_one (is_ret (ie_and (ie_isi (by decide +kernel) (iv 0) rfl h.n_isinstance (by decide +kernel) rfl h.n_str (by decide +kernel)) (ie_and (ie_chain oA_le oA_le (ie_int) (ie_callB cA_len rfl h.n_len (by decide +kernel) (ia_cons (iv 0) (ia_nil))) (ie_gint rfl h.i_LONGEST)) (ie_one (ie_callB (cA_all rfl) rfl h.n_all (by decide +kernel) (ia_cons (ie_lc (own := [("sign", 1)]) rfl sc_is_name.nd (ii_str (iv 0)) (blkOk_by (own := [("sign", 1)]) (N := N_is_name) (sc := defScope s_is_name) (by decide +kernel)) (fun _ _ _ _ _ => igv_name (i := 1) sc_is_name.nd rfl (by first | exact .inl rfl | exact .inr rfl) (by decide)) (fun _ _ _ _ _ => its_nil) (fun _ _ _ _ _ => ie_cmp (oA_in (hu_of hr.r)) (iv 1) (ie_gstr rfl h.s_SMALL) (by with_unfolding_all rfl))) (ia_nil)))))))
def rd_is_tuple (K : PySem.W.Frag) : AS :=
  sRet (aAndV (aIsi "tuple" (aVar 0)) (aOp eqA (aCB lenC (aCons (aVar 0) (aNil))) (aVar 1)))
theorem ok_is_tuple (h : Hd P w K mg base T) {k : Nat} {A : ASp}
    (len : ∀ va S R RE, A va S R RE → va.length = 2) (pure : ∀ va S R RE, A va S R RE → rd_is_tuple K { nx := fun _ S' => R .non S', rt := R, ex := fun x _ S' => RE x S' } (astart N_is_tuple va) S) : CalA P w K mg base T (k + 1) "is_tuple" A :=
  cal_of h.D_is_tuple sc_is_tuple (fun _ _ _ _ _ _ us hl => match us, hl with | [_, _], _ => rfl) len pure fun A outer s H E hr =>
    iss_one (is_ret (ie_and (ie_isi (by decide +kernel) (iv 0) rfl h.n_isinstance (by decide +kernel) rfl h.n_tuple (by decide +kernel)) (ie_one (ie_cmp (oA_eq hr.units) (ie_callB cA_len rfl h.n_len (by decide +kernel) (ia_cons (iv 0) (ia_nil))) (iv 1) (nomark _)))))
def rd_is_headed (K : PySem.W.Frag) (A_is_tuple : ASp) : AS :=
  sRet (aAndV (aCall A_is_tuple (aCons (aVar 0) (aCons (aVar 2) (aNil)))) (aAndV (aIsi "str" (aOp ixA (aVar 0) (aC (.int 0)))) (aOp eqA (aOp ixA (aVar 0) (aC (.int 0))) (aVar 1))))
theorem ok_is_headed (h : Hd P w K mg base T) {k : Nat} {A_is_tuple : ASp} {A : ASp} (c_is_tuple : CalA P w K mg base T k "is_tuple" A_is_tuple)
    (len : ∀ va S R RE, A va S R RE → va.length = 3) (pure : ∀ va S R RE, A va S R RE → rd_is_headed K A_is_tuple { nx := fun _ S' => R .non S', rt := R, ex := fun x _ S' => RE x S' } (astart N_is_headed va) S) : CalA P w K mg base T (k + 1) "is_headed" A :=
  cal_of h.D_is_headed sc_is_headed (fun _ _ _ _ _ _ us hl => match us, hl with | [_, _, _], _ => rfl) len pure fun A outer s H E hr =>
    iss_one (is_ret (ie_and (ie_callA c_is_tuple hr rfl (takes_of rfl rfl rfl rfl) (ia_cons (iv 0) (ia_cons (iv 2) (ia_nil)))) (ie_and (ie_isi (by decide +kernel) (ie_ix (iv 0) (ie_int)) rfl h.n_isinstance (by decide +kernel) rfl h.n_str (by decide +kernel)) (ie_one (ie_cmp (oA_eq hr.units) (ie_ix (iv 0) (ie_int)) (iv 1) (nomark _))))))
def rd_name_at (K : PySem.W.Frag) : AS :=
  sSeq (sPar 1 2 (aCons (aC (.str "")) (aCons (aOp addA (aVar 0) (aC (.int 1))) (aNil)))) (sSeq (sWhile (aTest (aOp gtA (aVar 2) (aC (.int 0)))) (sSeq (sAug 2 subA (aC (.int 1))) (sPar 1 2 (aCons (aOp addA (aOp ixA (aC (.str "abcdefghijklmnopqrstuvwxyz")) (aOp modA (aVar 2) (aC (.int 26)))) (aVar 1)) (aCons (aOp fdivA (aVar 2) (aC (.int 26))) (aNil)))))) (sRet (aVar 1)))
theorem ok_name_at (h : Hd P w K mg base T) {k : Nat} {A : ASp}
    (len : ∀ va S R RE, A va S R RE → va.length = 1) (pure : ∀ va S R RE, A va S R RE → rd_name_at K { nx := fun _ S' => R .non S', rt := R, ex := fun x _ S' => RE x S' } (astart N_name_at va) S) : CalA P w K mg base T (k + 1) "name_at" A :=
  cal_of h.D_name_at sc_name_at (fun _ _ _ _ _ _ us hl => match us, hl with | [_], _ => rfl) len pure fun A outer s H E hr =>
    iss_cons (is_par (i := 1) (j := 2) rfl sc_name_at.nd rfl rfl (by decide) rfl rfl (ia_cons (ie_str) (ia_cons (ie_op oA_add (iv 0) (ie_int)) (ia_nil))))
      (iss_cons (is_while (passes_of rfl) (it_cmp oA_gt (iv 2) (ie_int) (nomark _)) (iss_cons (is_aug (j := 2) sc_name_at.nd rfl (.inl rfl) (ie_int) pA_sub)
      (iss_one (is_par (i := 1) (j := 2) rfl sc_name_at.nd rfl rfl (by decide) rfl rfl (ia_cons (ie_op oA_add (ie_ix (ie_gstr rfl h.s_SMALL) (ie_op oA_mod (iv 2) (ie_int))) (iv 1)) (ia_cons (ie_op oA_fdiv (iv 2) (ie_int)) (ia_nil)))))))
      (iss_one (is_ret (iv 1))))
def rd_forms_of (K : PySem.W.Frag) (A_is_name : ASp) (A_is_headed : ASp) : AS :=
  sSeq (sIf (aTest (aCall A_is_name (aCons (aVar 0) (aNil)))) (sRet (aTup (aCons (aTup (aNil)) (aCons (aC (.bl true)) (aNil))))) (sNext)) (sSeq (sIf (aTest (aCall A_is_headed (aCons (aVar 0) (aCons (aC (.str "of")) (aCons (aC (.int 3)) (aNil)))))) (sRet (aTup (aCons (aSl (aVar 0) (oSome (aC (.int 1))) (oNone)) (aCons (aC (.bl true)) (aNil))))) (sNext)) (sSeq (sIf (aAnd (aTest (aCall A_is_headed (aCons (aVar 0) (aCons (aC (.str "with")) (aCons (aC (.int 3)) (aNil)))))) (aTest (aCall A_is_name (aCons (aOp ixA (aVar 0) (aC (.int 1))) (aNil))))) (sRet (aTup (aCons (aSl (aVar 0) (oSome (aC (.int 2))) (oNone)) (aCons (aC (.bl true)) (aNil))))) (sNext)) (sRet (aTup (aCons (aTup (aNil)) (aCons (aC (.bl false)) (aNil)))))))
theorem ok_forms_of (h : Hd P w K mg base T) {k : Nat} {A_is_name : ASp} {A_is_headed : ASp} {A : ASp} (c_is_name : CalA P w K mg base T k "is_name" A_is_name) (c_is_headed : CalA P w K mg base T k "is_headed" A_is_headed)
    (len : ∀ va S R RE, A va S R RE → va.length = 1) (pure : ∀ va S R RE, A va S R RE → rd_forms_of K A_is_name A_is_headed { nx := fun _ S' => R .non S', rt := R, ex := fun x _ S' => RE x S' } (astart N_forms_of va) S) : CalA P w K mg base T (k + 1) "forms_of" A :=
  cal_of h.D_forms_of sc_forms_of (fun _ _ _ _ _ _ us hl => match us, hl with | [_], _ => rfl) len pure fun A outer s H E hr =>
    iss_cons (is_if (it_val (ie_callA c_is_name hr rfl (takes_of rfl rfl rfl rfl) (ia_cons (iv 0) (ia_nil)))) (iss_one (is_ret (ie_tup (ia_cons (ie_tup (ia_nil)) (ia_cons (ie_bl) (ia_nil)))))) (iss_nil))
      (iss_cons (is_if (it_val (ie_callA c_is_headed hr rfl (takes_of rfl rfl rfl rfl) (ia_cons (iv 0) (ia_cons (ie_gstr rfl h.s_OF) (ia_cons (ie_int) (ia_nil)))))) (iss_one (is_ret (ie_tup (ia_cons (ie_sl (iv 0) (io_some (ie_int)) (io_none)) (ia_cons (ie_bl) (ia_nil)))))) (iss_nil))
      (iss_cons (is_if (it_w (iw_and (it_val (ie_callA c_is_headed hr rfl (takes_of rfl rfl rfl rfl) (ia_cons (iv 0) (ia_cons (ie_gstr rfl h.s_WITH) (ia_cons (ie_int) (ia_nil)))))) (iw_and1 (it_val (ie_callA c_is_name hr rfl (takes_of rfl rfl rfl rfl) (ia_cons (ie_ix (iv 0) (ie_int)) (ia_nil))))))) (iss_one (is_ret (ie_tup (ia_cons (ie_sl (iv 0) (io_some (ie_int)) (io_none)) (ia_cons (ie_bl) (ia_nil)))))) (iss_nil))
      (iss_one (is_ret (ie_tup (ia_cons (ie_tup (ia_nil)) (ia_cons (ie_bl) (ia_nil))))))))
def rd_is_term (K : PySem.W.Frag) (A_forms_of : ASp) : AS :=
  sSeq (sPar 1 2 (aCons (aLst (aCons (aTup (aCons (aVar 0) (aCons (aC (.int 1)) (aNil)))) (aNil))) (aCons (aC (.int 0)) (aNil)))) (sSeq (sWhile (aTest (aOp gtA (aCB lenC (aCons (aVar 1) (aNil))) (aC (.int 0)))) (sSeq (sAsg (aBM0 "list" popM (aVar 1)) (tTupA 2 (tConsA (tName 3) (tConsA (tName 4) (tNilA))))) (sSeq (sAug 2 iaddA (aC (.int 1))) (sSeq (sAsg (aCall A_forms_of (aCons (aVar 3) (aNil))) (tTupA 2 (tConsA (tName 5) (tConsA (tName 6) (tNilA))))) (sSeq (sIf (aOr (aNot (aTest (aVar 6))) (aOr (aTest (aOp gtA (aVar 4) (aC (.int 16)))) (aTest (aOp gtA (aVar 2) (aC (.int 120)))))) (sRet (aC (.bl false))) (sNext)) (sDrop (aBM "list" extendM (aVar 1) (aCons (aLc (iSeq (aVar 5)) (tName 7) (aYes) (aTup (aCons (aVar 7) (aCons (aOp addA (aVar 4) (aC (.int 1))) (aNil)))) [7]) (aNil))))))))) (sRet (aC (.bl true))))
theorem ok_is_term (h : Hd P w K mg base T) {k : Nat} {A_forms_of : ASp} {A : ASp} (c_forms_of : CalA P w K mg base T k "forms_of" A_forms_of)
    (len : ∀ va S R RE, A va S R RE → va.length = 1) (pure : ∀ va S R RE, A va S R RE → rd_is_term K A_forms_of { nx := fun _ S' => R .non S', rt := R, ex := fun x _ S' => RE x S' } (astart N_is_term va) S) : CalA P w K mg base T (k + 1) "is_term" A :=
  cal_of h.D_is_term sc_is_term (fun _ _ _ _ _ _ us hl => match us, hl with | [_], _ => rfl) len pure fun A outer s H E hr =>
    iss_cons (is_par (i := 1) (j := 2) rfl sc_is_term.nd rfl rfl (by decide) rfl rfl (ia_cons (ie_lst (ia_cons (ie_tup (ia_cons (iv 0) (ia_cons (ie_int) (ia_nil)))) (ia_nil))) (ia_cons (ie_int) (ia_nil))))
      (iss_cons (is_while (passes_of rfl) (it_cmp oA_gt (ie_callB cA_len rfl h.n_len (by decide +kernel) (ia_cons (iv 1) (ia_nil))) (ie_int) (nomark _)) (iss_cons (is_asg (ie_bm0 PySem.F.plainAttrs_list PySem.F.slot_list_pop PySem.F.type_list_pop mA_pop (iv 1)) (ig_tup rfl (igs_cons (ig_name (i := 3) sc_is_term.nd rfl (.inl rfl)) (igs_cons (ig_name (i := 4) sc_is_term.nd rfl (.inr rfl)) (igs_nil)))))
      (iss_cons (is_aug (j := 2) sc_is_term.nd rfl (.inl rfl) (ie_int) pA_add)
      (iss_cons (is_asg (ie_callA c_forms_of hr rfl (takes_of rfl rfl rfl rfl) (ia_cons (iv 3) (ia_nil))) (ig_tup rfl (igs_cons (ig_name (i := 5) sc_is_term.nd rfl (.inl rfl)) (igs_cons (ig_name (i := 6) sc_is_term.nd rfl (.inl rfl)) (igs_nil)))))
      (iss_cons (is_if (it_w (iw_or (it_not (it_val (iv 6))) (iw_or (it_cmp oA_gt (iv 4) (ie_gint rfl h.i_MOST_DEEP) (nomark _)) (iw_or1 (it_cmp oA_gt (iv 2) (ie_gint rfl h.i_MOST_SIZE) (nomark _)))))) (iss_one (is_ret (ie_bl))) (iss_nil))
      (iss_one (is_expr (ie_bm PySem.F.plainAttrs_list PySem.F.slot_list_extend PySem.F.type_list_extend mA_extend (iv 1) (ia_cons (ie_lc (own := [("one", 7)]) rfl sc_is_term.nd (ii_seq (iv 5)) (blkOk_by (own := [("one", 7)]) (N := N_is_term) (sc := defScope s_is_term) (by decide +kernel)) (fun _ _ _ _ _ => igv_name (i := 7) sc_is_term.nd rfl (by first | exact .inl rfl | exact .inr rfl) (by decide)) (fun _ _ _ _ _ => its_nil) (fun _ _ _ _ _ => ie_tup (ia_cons (iv 7) (ia_cons (ie_op oA_add (iv 4) (ie_int)) (ia_nil))))) (ia_nil))))))))))
      (iss_one (is_ret (ie_bl))))
def rd_check_term (K : PySem.W.Frag) (A_is_term : ASp) : AS :=
  sIf (aNot (aTest (aCall A_is_term (aCons (aVar 0) (aNil))))) (sRaise0 (He.ga K "NoTerm")) (sNext)
theorem ok_check_term (h : Hd P w K mg base T) {k : Nat} (hk : 2 ≤ k) {A_is_term : ASp} {A : ASp} (c_is_term : CalA P w K mg base T k "is_term" A_is_term)
    (len : ∀ va S R RE, A va S R RE → va.length = 1) (pure : ∀ va S R RE, A va S R RE → rd_check_term K A_is_term { nx := fun _ S' => R .non S', rt := R, ex := fun x _ S' => RE x S' } (astart N_check_term va) S) : CalA P w K mg base T (k + 1) "check_term" A :=
  cal_of h.D_check_term sc_check_term (fun _ _ _ _ _ _ us hl => match us, hl with | [_], _ => rfl) len pure fun A outer s H E hr =>
    iss_one (is_if (it_not (it_val (ie_callA c_is_term hr rfl (takes_of rfl rfl rfl rfl) (ia_cons (iv 0) (ia_nil))))) (iss_one (is_raise_0 h.te h.e_NoTerm rfl (takes_of rfl rfl rfl rfl) hr hk rfl)) (iss_nil))
def rd_raw_indexed (K : PySem.W.Frag) : AS :=
  sSeq (sPar3 1 2 3 (aCons (aDt) (aCons (aLst (aCons (aTup (aCons (aTup (aNil)) (aCons (aVar 0) (aCons (aTupF aNil) (aNil))))) (aNil))) (aCons (aLst (aNil)) (aNil))))) (sSeq (sWhile (aTest (aOp gtA (aCB lenC (aCons (aVar 2) (aNil))) (aC (.int 0)))) (sSeq (sAsg (aBM0 "list" popM (aVar 2)) (tTupA 3 (tConsA (tName 4) (tConsA (tName 5) (tConsA (tName 6) (tNilA)))))) (sSeq (sDrop (aBM "list" appendM (aVar 3) (aCons (aTup (aCons (aVar 4) (aCons (aVar 5) (aNil)))) (aNil)))) (sIf (aTest (aIsi "str" (aVar 5))) (sDPut (aIf (aTest (aOp inA (aVar 5) (aVar 6))) (aBMF indexFM (aVar 6) (aCons (aVar 5) (aNil))) (aVar 5)) (aVar 1) (aVar 4)) (sIf (aTest (aOp eqA (aOp ixA (aVar 5) (aC (.int 0))) (aC (.str "of")))) (sDrop (aBM "list" extendM (aVar 2) (aCons (aLst (aCons (aTup (aCons (aOp addA (aVar 4) (aTup (aCons (aC (.int 0)) (aNil)))) (aCons (aOp ixA (aVar 5) (aC (.int 1))) (aCons (aVar 6) (aNil))))) (aCons (aTup (aCons (aOp addA (aVar 4) (aTup (aCons (aC (.int 1)) (aNil)))) (aCons (aOp ixA (aVar 5) (aC (.int 2))) (aCons (aVar 6) (aNil))))) (aNil)))) (aNil)))) (sDrop (aBM "list" appendM (aVar 2) (aCons (aTup (aCons (aOp addA (aVar 4) (aTup (aCons (aC (.int 0)) (aNil)))) (aCons (aOp ixA (aVar 5) (aC (.int 2))) (aCons (aOp addF (aTupF (aCons (aOp ixA (aVar 5) (aC (.int 1))) (aNil))) (aVar 6)) (aNil))))) (aNil))))))))) (sSeq (sFor (iSeq (aRev (aVar 3))) (tTupA 2 (tConsA (tName 4) (tConsA (tName 5) (tNilA)))) (sIf (aNot (aTest (aIsi "str" (aVar 5)))) (sIf (aTest (aOp eqA (aOp ixA (aVar 5) (aC (.int 0))) (aC (.str "of")))) (sDPut (aTup (aCons (aC (.str "of")) (aCons (aOp dgetA (aVar 1) (aOp addA (aVar 4) (aTup (aCons (aC (.int 0)) (aNil))))) (aCons (aOp dgetA (aVar 1) (aOp addA (aVar 4) (aTup (aCons (aC (.int 1)) (aNil))))) (aNil))))) (aVar 1) (aVar 4)) (sDPut (aTup (aCons (aC (.str "with")) (aCons (aOp dgetA (aVar 1) (aOp addA (aVar 4) (aTup (aCons (aC (.int 0)) (aNil))))) (aNil)))) (aVar 1) (aVar 4))) (sNext))) (sRet (aOp dgetA (aVar 1) (aTup (aNil))))))
theorem ok_raw_indexed (h : Hd P w K mg base T) {k : Nat} {A : ASp}
    (len : ∀ va S R RE, A va S R RE → va.length = 1) (pure : ∀ va S R RE, A va S R RE → rd_raw_indexed K { nx := fun _ S' => R .non S', rt := R, ex := fun x _ S' => RE x S' } (astart N_raw_indexed va) S) : CalA P w K mg base T (k + 1) "raw_indexed" A :=
  cal_of h.D_raw_indexed sc_raw_indexed (fun _ _ _ _ _ _ us hl => match us, hl with | [_], _ => rfl) len pure fun A outer s H E hr =>
    iss_cons (is_par3 (i := 1) (j := 2) (l := 3) rfl sc_raw_indexed.nd rfl rfl rfl (by decide) (by decide) (by decide) rfl rfl rfl (ia_cons (ie_dt) (ia_cons (ie_lst (ia_cons (ie_tup (ia_cons (ie_tup (ia_nil)) (ia_cons (iv 0) (ia_cons (ie_tupF ia_nil) (ia_nil))))) (ia_nil))) (ia_cons (ie_lst (ia_nil)) (ia_nil)))))
      (iss_cons (is_while (passes_of rfl) (it_cmp oA_gt (ie_callB cA_len rfl h.n_len (by decide +kernel) (ia_cons (iv 2) (ia_nil))) (ie_int) (nomark _)) (iss_cons (is_asg (ie_bm0 PySem.F.plainAttrs_list PySem.F.slot_list_pop PySem.F.type_list_pop mA_pop (iv 2)) (ig_tup rfl (igs_cons (ig_name (i := 4) sc_raw_indexed.nd rfl (.inl rfl)) (igs_cons (ig_name (i := 5) sc_raw_indexed.nd rfl (.inl rfl)) (igs_cons (ig_name (i := 6) sc_raw_indexed.nd rfl (.inl rfl)) (igs_nil))))))
      (iss_cons (is_expr (ie_bm PySem.F.plainAttrs_list PySem.F.slot_list_append PySem.F.type_list_append mA_append (iv 3) (ia_cons (ie_tup (ia_cons (iv 4) (ia_cons (iv 5) (ia_nil)))) (ia_nil))))
      (iss_one (is_if (it_val (ie_isi (by decide +kernel) (iv 5) rfl h.n_isinstance (by decide +kernel) rfl h.n_str (by decide +kernel))) (iss_one (is_dput (hu_of hr.r) (iv 1) (iv 4) (ie_if (it_cmp (oA_in (hu_of hr.r)) (iv 5) (iv 6) (by with_unfolding_all rfl)) (ie_bmF PySem.F.slot_tuple_index PySem.F.type_tuple_index mA_indexF (iv 6) (ia_cons (iv 5) (ia_nil))) (iv 5)))) (iss_one (is_if (it_cmp (oA_eq hr.units) (ie_ix (iv 5) (ie_int)) (ie_gstr rfl h.s_OF) (nomark _)) (iss_one (is_expr (ie_bm PySem.F.plainAttrs_list PySem.F.slot_list_extend PySem.F.type_list_extend mA_extend (iv 2) (ia_cons (ie_lst (ia_cons (ie_tup (ia_cons (ie_op oA_add (iv 4) (ie_tup (ia_cons (ie_int) (ia_nil)))) (ia_cons (ie_ix (iv 5) (ie_int)) (ia_cons (iv 6) (ia_nil))))) (ia_cons (ie_tup (ia_cons (ie_op oA_add (iv 4) (ie_tup (ia_cons (ie_int) (ia_nil)))) (ia_cons (ie_ix (iv 5) (ie_int)) (ia_cons (iv 6) (ia_nil))))) (ia_nil)))) (ia_nil))))) (iss_one (is_expr (ie_bm PySem.F.plainAttrs_list PySem.F.slot_list_append PySem.F.type_list_append mA_append (iv 2) (ia_cons (ie_tup (ia_cons (ie_op oA_add (iv 4) (ie_tup (ia_cons (ie_int) (ia_nil)))) (ia_cons (ie_ix (iv 5) (ie_int)) (ia_cons (ie_op oA_addF (ie_tupF (ia_cons (ie_ix (iv 5) (ie_int)) (ia_nil))) (iv 6)) (ia_nil))))) (ia_nil))))))))))))
      (iss_cons (is_for (passes_of rfl) rfl (ii_seq (ie_rev (iv 3))) (ig_tup rfl (igs_cons (ig_name (i := 4) sc_raw_indexed.nd rfl (.inl rfl)) (igs_cons (ig_name (i := 5) sc_raw_indexed.nd rfl (.inl rfl)) (igs_nil)))) (iss_one (is_if (it_not (it_val (ie_isi (by decide +kernel) (iv 5) rfl h.n_isinstance (by decide +kernel) rfl h.n_str (by decide +kernel)))) (iss_one (is_if (it_cmp (oA_eq hr.units) (ie_ix (iv 5) (ie_int)) (ie_gstr rfl h.s_OF) (nomark _)) (iss_one (is_dput (hu_of hr.r) (iv 1) (iv 4) (ie_tup (ia_cons (ie_gstr rfl h.s_OF) (ia_cons (ie_dget (hu_of hr.r) (iv 1) (ie_op oA_add (iv 4) (ie_tup (ia_cons (ie_int) (ia_nil))))) (ia_cons (ie_dget (hu_of hr.r) (iv 1) (ie_op oA_add (iv 4) (ie_tup (ia_cons (ie_int) (ia_nil))))) (ia_nil))))))) (iss_one (is_dput (hu_of hr.r) (iv 1) (iv 4) (ie_tup (ia_cons (ie_gstr rfl h.s_WITH) (ia_cons (ie_dget (hu_of hr.r) (iv 1) (ie_op oA_add (iv 4) (ie_tup (ia_cons (ie_int) (ia_nil))))) (ia_nil)))))))) (iss_nil))))
      (iss_one (is_ret (ie_dget (hu_of hr.r) (iv 1) (ie_tup (ia_nil)))))))
def rd_free_of_indexed (K : PySem.W.Frag) (A_is_integer : ASp) : AS :=
  sSeq (sPar 1 2 (aCons (aDk) (aCons (aLst (aCons (aVar 0) (aNil))) (aNil)))) (sSeq (sWhile (aTest (aOp gtA (aCB lenC (aCons (aVar 2) (aNil))) (aC (.int 0)))) (sSeq (sSet 3 (aBM0 "list" popM (aVar 2))) (sIf (aTest (aIsi "str" (aVar 3))) (sDPut (aC (.bl true)) (aVar 1) (aVar 3)) (sIf (aNot (aTest (aCall A_is_integer (aCons (aVar 3) (aNil))))) (sDrop (aBM "list" extendM (aVar 2) (aCons (aSl (aVar 3) (oSome (aC (.int 1))) (oNone)) (aNil)))) (sNext))))) (sRet (aCB sortedSC (aCons (aVar 1) (aNil)))))
theorem ok_free_of_indexed (h : Hd P w K mg base T) {k : Nat} {A_is_integer : ASp} {A : ASp} (c_is_integer : CalA P w K mg base T k "is_integer" A_is_integer)
    (len : ∀ va S R RE, A va S R RE → va.length = 1) (pure : ∀ va S R RE, A va S R RE → rd_free_of_indexed K A_is_integer { nx := fun _ S' => R .non S', rt := R, ex := fun x _ S' => RE x S' } (astart N_free_of_indexed va) S) : CalA P w K mg base T (k + 1) "free_of_indexed" A :=
  cal_of h.D_free_of_indexed sc_free_of_indexed (fun _ _ _ _ _ _ us hl => match us, hl with | [_], _ => rfl) len pure fun A outer s H E hr =>
    iss_cons (is_par (i := 1) (j := 2) rfl sc_free_of_indexed.nd rfl rfl (by decide) rfl rfl (ia_cons (ie_dk) (ia_cons (ie_lst (ia_cons (iv 0) (ia_nil))) (ia_nil))))
      (iss_cons (is_while (passes_of rfl) (it_cmp oA_gt (ie_callB cA_len rfl h.n_len (by decide +kernel) (ia_cons (iv 2) (ia_nil))) (ie_int) (nomark _)) (iss_cons (is_set (i := 3) sc_free_of_indexed.nd rfl (.inl rfl) (ie_bm0 PySem.F.plainAttrs_list PySem.F.slot_list_pop PySem.F.type_list_pop mA_pop (iv 2)))
      (iss_one (is_if (it_val (ie_isi (by decide +kernel) (iv 3) rfl h.n_isinstance (by decide +kernel) rfl h.n_str (by decide +kernel))) (iss_one (is_dput (hu_of hr.r) (iv 1) (iv 3) (ie_bl))) (iss_one (is_if (it_not (it_val (ie_callA c_is_integer hr rfl (takes_of rfl rfl rfl rfl) (ia_cons (iv 3) (ia_nil))))) (iss_one (is_expr (ie_bm PySem.F.plainAttrs_list PySem.F.slot_list_extend PySem.F.type_list_extend mA_extend (iv 2) (ia_cons (ie_sl (iv 3) (io_some (ie_int)) (io_none)) (ia_nil))))) (iss_nil)))))))
      (iss_one (is_ret (ie_callB (cA_sortedS rfl) rfl h.n_sorted (by decide +kernel) (ia_cons (iv 1) (ia_nil))))))
def rd_raw_named (K : PySem.W.Frag) (A_free_of_indexed : ASp) (A_is_integer : ASp) (A_name_at : ASp) : AS :=
  sSeq (sSet 1 (aCall A_free_of_indexed (aCons (aVar 0) (aNil)))) (sSeq (sPar 2 3 (aCons (aLst (aNil)) (aCons (aC (.int 0)) (aNil)))) (sSeq (sPar 4 5 (aCons (aLst (aCons (aTup (aCons (aTup (aNil)) (aCons (aVar 0) (aCons (aC (.int 0)) (aNil))))) (aNil))) (aCons (aLst (aNil)) (aNil)))) (sSeq (sSet 6 (aC (.int 0))) (sSeq (sWhile (aTest (aOp gtA (aCB lenC (aCons (aVar 4) (aNil))) (aC (.int 0)))) (sSeq (sAsg (aBM0 "list" popM (aVar 4)) (tTupA 3 (tConsA (tName 7) (tConsA (tName 8) (tConsA (tName 9) (tNilA)))))) (sSeq (sDrop (aBM "list" appendM (aVar 5) (aCons (aTup (aCons (aVar 7) (aCons (aVar 8) (aCons (aVar 9) (aNil))))) (aNil)))) (sSeq (sSet 6 (aCB max2C (aCons (aVar 6) (aCons (aVar 9) (aNil))))) (sIf (aAnd (aNot (aTest (aIsi "str" (aVar 8)))) (aNot (aTest (aCall A_is_integer (aCons (aVar 8) (aNil)))))) (sIf (aTest (aOp eqA (aOp ixA (aVar 8) (aC (.int 0))) (aC (.str "of")))) (sDrop (aBM "list" extendM (aVar 4) (aCons (aLst (aCons (aTup (aCons (aOp addA (aVar 7) (aTup (aCons (aC (.int 0)) (aNil)))) (aCons (aOp ixA (aVar 8) (aC (.int 1))) (aCons (aVar 9) (aNil))))) (aCons (aTup (aCons (aOp addA (aVar 7) (aTup (aCons (aC (.int 1)) (aNil)))) (aCons (aOp ixA (aVar 8) (aC (.int 2))) (aCons (aVar 9) (aNil))))) (aNil)))) (aNil)))) (sDrop (aBM "list" appendM (aVar 4) (aCons (aTup (aCons (aOp addA (aVar 7) (aTup (aCons (aC (.int 0)) (aNil)))) (aCons (aOp ixA (aVar 8) (aC (.int 1))) (aCons (aOp addA (aVar 9) (aC (.int 1))) (aNil))))) (aNil))))) (sNext)))))) (sSeq (sWhile (aTest (aOp ltA (aCB lenC (aCons (aVar 2) (aNil))) (aVar 6))) (sSeq (sIf (aTest (aOp notinA (aCall A_name_at (aCons (aVar 3) (aNil))) (aVar 1))) (sDrop (aBM "list" appendM (aVar 2) (aCons (aCall A_name_at (aCons (aVar 3) (aNil))) (aNil)))) (sNext)) (sAug 3 iaddA (aC (.int 1))))) (sSeq (sSet 10 (aDt)) (sSeq (sFor (iSeq (aRev (aVar 5))) (tTupA 3 (tConsA (tName 7) (tConsA (tName 8) (tConsA (tName 9) (tNilA))))) (sIf (aTest (aIsi "str" (aVar 8))) (sDPut (aVar 8) (aVar 10) (aVar 7)) (sIf (aTest (aCall A_is_integer (aCons (aVar 8) (aNil)))) (sDPut (aOp ixA (aVar 2) (aOp subA (aOp subA (aVar 9) (aC (.int 1))) (aVar 8))) (aVar 10) (aVar 7)) (sIf (aTest (aOp eqA (aOp ixA (aVar 8) (aC (.int 0))) (aC (.str "of")))) (sDPut (aTup (aCons (aC (.str "of")) (aCons (aOp dgetA (aVar 10) (aOp addA (aVar 7) (aTup (aCons (aC (.int 0)) (aNil))))) (aCons (aOp dgetA (aVar 10) (aOp addA (aVar 7) (aTup (aCons (aC (.int 1)) (aNil))))) (aNil))))) (aVar 10) (aVar 7)) (sDPut (aTup (aCons (aC (.str "with")) (aCons (aOp ixA (aVar 2) (aVar 9)) (aCons (aOp dgetA (aVar 10) (aOp addA (aVar 7) (aTup (aCons (aC (.int 0)) (aNil))))) (aNil))))) (aVar 10) (aVar 7)))))) (sRet (aOp dgetA (aVar 10) (aTup (aNil)))))))))))
theorem ok_raw_named (h : Hd P w K mg base T) {k : Nat} {A_free_of_indexed : ASp} {A_is_integer : ASp} {A_name_at : ASp} {A : ASp} (c_free_of_indexed : CalA P w K mg base T k "free_of_indexed" A_free_of_indexed) (c_is_integer : CalA P w K mg base T k "is_integer" A_is_integer) (c_name_at : CalA P w K mg base T k "name_at" A_name_at)
    (len : ∀ va S R RE, A va S R RE → va.length = 1) (pure : ∀ va S R RE, A va S R RE → rd_raw_named K A_free_of_indexed A_is_integer A_name_at { nx := fun _ S' => R .non S', rt := R, ex := fun x _ S' => RE x S' } (astart N_raw_named va) S) : CalA P w K mg base T (k + 1) "raw_named" A :=
  cal_of h.D_raw_named sc_raw_named (fun _ _ _ _ _ _ us hl => match us, hl with | [_], _ => rfl) len pure fun A outer s H E hr =>
    iss_cons (is_set (i := 1) sc_raw_named.nd rfl (.inl rfl) (ie_callA c_free_of_indexed hr rfl (takes_of rfl rfl rfl rfl) (ia_cons (iv 0) (ia_nil))))
      (iss_cons (is_par (i := 2) (j := 3) rfl sc_raw_named.nd rfl rfl (by decide) rfl rfl (ia_cons (ie_lst (ia_nil)) (ia_cons (ie_int) (ia_nil))))
      (iss_cons (is_par (i := 4) (j := 5) rfl sc_raw_named.nd rfl rfl (by decide) rfl rfl (ia_cons (ie_lst (ia_cons (ie_tup (ia_cons (ie_tup (ia_nil)) (ia_cons (iv 0) (ia_cons (ie_int) (ia_nil))))) (ia_nil))) (ia_cons (ie_lst (ia_nil)) (ia_nil))))
      (iss_cons (is_set (i := 6) sc_raw_named.nd rfl (.inl rfl) (ie_int))
      (iss_cons (is_while (passes_of rfl) (it_cmp oA_gt (ie_callB cA_len rfl h.n_len (by decide +kernel) (ia_cons (iv 4) (ia_nil))) (ie_int) (nomark _)) (iss_cons (is_asg (ie_bm0 PySem.F.plainAttrs_list PySem.F.slot_list_pop PySem.F.type_list_pop mA_pop (iv 4)) (ig_tup rfl (igs_cons (ig_name (i := 7) sc_raw_named.nd rfl (.inl rfl)) (igs_cons (ig_name (i := 8) sc_raw_named.nd rfl (.inl rfl)) (igs_cons (ig_name (i := 9) sc_raw_named.nd rfl (.inl rfl)) (igs_nil))))))
      (iss_cons (is_expr (ie_bm PySem.F.plainAttrs_list PySem.F.slot_list_append PySem.F.type_list_append mA_append (iv 5) (ia_cons (ie_tup (ia_cons (iv 7) (ia_cons (iv 8) (ia_cons (iv 9) (ia_nil))))) (ia_nil))))
      (iss_cons (is_set (i := 6) sc_raw_named.nd rfl (.inl rfl) (ie_callB (cA_max2 rfl) rfl h.n_max (by decide +kernel) (ia_cons (iv 6) (ia_cons (iv 9) (ia_nil)))))
      (iss_one (is_if (it_w (iw_and (it_not (it_val (ie_isi (by decide +kernel) (iv 8) rfl h.n_isinstance (by decide +kernel) rfl h.n_str (by decide +kernel)))) (iw_and1 (it_not (it_val (ie_callA c_is_integer hr rfl (takes_of rfl rfl rfl rfl) (ia_cons (iv 8) (ia_nil)))))))) (iss_one (is_if (it_cmp (oA_eq hr.units) (ie_ix (iv 8) (ie_int)) (ie_gstr rfl h.s_OF) (nomark _)) (iss_one (is_expr (ie_bm PySem.F.plainAttrs_list PySem.F.slot_list_extend PySem.F.type_list_extend mA_extend (iv 4) (ia_cons (ie_lst (ia_cons (ie_tup (ia_cons (ie_op oA_add (iv 7) (ie_tup (ia_cons (ie_int) (ia_nil)))) (ia_cons (ie_ix (iv 8) (ie_int)) (ia_cons (iv 9) (ia_nil))))) (ia_cons (ie_tup (ia_cons (ie_op oA_add (iv 7) (ie_tup (ia_cons (ie_int) (ia_nil)))) (ia_cons (ie_ix (iv 8) (ie_int)) (ia_cons (iv 9) (ia_nil))))) (ia_nil)))) (ia_nil))))) (iss_one (is_expr (ie_bm PySem.F.plainAttrs_list PySem.F.slot_list_append PySem.F.type_list_append mA_append (iv 4) (ia_cons (ie_tup (ia_cons (ie_op oA_add (iv 7) (ie_tup (ia_cons (ie_int) (ia_nil)))) (ia_cons (ie_ix (iv 8) (ie_int)) (ia_cons (ie_op oA_add (iv 9) (ie_int)) (ia_nil))))) (ia_nil))))))) (iss_nil)))))))
      (iss_cons (is_while (passes_of rfl) (it_cmp oA_lt (ie_callB cA_len rfl h.n_len (by decide +kernel) (ia_cons (iv 2) (ia_nil))) (iv 6) (nomark _)) (iss_cons (is_if (it_cmp (oA_notin (hu_of hr.r)) (ie_callA c_name_at hr rfl (takes_of rfl rfl rfl rfl) (ia_cons (iv 3) (ia_nil))) (iv 1) (by with_unfolding_all rfl)) (iss_one (is_expr (ie_bm PySem.F.plainAttrs_list PySem.F.slot_list_append PySem.F.type_list_append mA_append (iv 2) (ia_cons (ie_callA c_name_at hr rfl (takes_of rfl rfl rfl rfl) (ia_cons (iv 3) (ia_nil))) (ia_nil))))) (iss_nil))
      (iss_one (is_aug (j := 3) sc_raw_named.nd rfl (.inl rfl) (ie_int) pA_add))))
      (iss_cons (is_set (i := 10) sc_raw_named.nd rfl (.inl rfl) (ie_dt))
      (iss_cons (is_for (passes_of rfl) rfl (ii_seq (ie_rev (iv 5))) (ig_tup rfl (igs_cons (ig_name (i := 7) sc_raw_named.nd rfl (.inl rfl)) (igs_cons (ig_name (i := 8) sc_raw_named.nd rfl (.inl rfl)) (igs_cons (ig_name (i := 9) sc_raw_named.nd rfl (.inl rfl)) (igs_nil))))) (iss_one (is_if (it_val (ie_isi (by decide +kernel) (iv 8) rfl h.n_isinstance (by decide +kernel) rfl h.n_str (by decide +kernel))) (iss_one (is_dput (hu_of hr.r) (iv 10) (iv 7) (iv 8))) (iss_one (is_if (it_val (ie_callA c_is_integer hr rfl (takes_of rfl rfl rfl rfl) (ia_cons (iv 8) (ia_nil)))) (iss_one (is_dput (hu_of hr.r) (iv 10) (iv 7) (ie_ix (iv 2) (ie_op oA_sub (ie_op oA_sub (iv 9) (ie_int)) (iv 8))))) (iss_one (is_if (it_cmp (oA_eq hr.units) (ie_ix (iv 8) (ie_int)) (ie_gstr rfl h.s_OF) (nomark _)) (iss_one (is_dput (hu_of hr.r) (iv 10) (iv 7) (ie_tup (ia_cons (ie_gstr rfl h.s_OF) (ia_cons (ie_dget (hu_of hr.r) (iv 10) (ie_op oA_add (iv 7) (ie_tup (ia_cons (ie_int) (ia_nil))))) (ia_cons (ie_dget (hu_of hr.r) (iv 10) (ie_op oA_add (iv 7) (ie_tup (ia_cons (ie_int) (ia_nil))))) (ia_nil))))))) (iss_one (is_dput (hu_of hr.r) (iv 10) (iv 7) (ie_tup (ia_cons (ie_gstr rfl h.s_WITH) (ia_cons (ie_ix (iv 2) (iv 9)) (ia_cons (ie_dget (hu_of hr.r) (iv 10) (ie_op oA_add (iv 7) (ie_tup (ia_cons (ie_int) (ia_nil))))) (ia_nil))))))))))))))
      (iss_one (is_ret (ie_dget (hu_of hr.r) (iv 10) (ie_tup (ia_nil))))))))))))
def rd_parts_of (K : PySem.W.Frag) (A_is_integer : ASp) : AS :=
  sSeq (sPar 1 2 (aCons (aLst (aCons (aTup (aCons (aTup (aNil)) (aCons (aVar 0) (aCons (aC (.int 0)) (aNil))))) (aNil))) (aCons (aC (.int 0)) (aNil)))) (sSeq (sWhile (aTest (aOp ltA (aVar 2) (aCB lenC (aCons (aVar 1) (aNil))))) (sSeq (sAsg (aOp ixA (aVar 1) (aVar 2)) (tTupA 3 (tConsA (tName 3) (tConsA (tName 4) (tConsA (tName 5) (tNilA)))))) (sSeq (sAug 2 iaddA (aC (.int 1))) (sIf (aAnd (aNot (aTest (aIsi "str" (aVar 4)))) (aNot (aTest (aCall A_is_integer (aCons (aVar 4) (aNil)))))) (sSeq (sSet 6 (aCB intC (aCons (aOp eqA (aOp ixA (aVar 4) (aC (.int 0))) (aC (.str "with"))) (aNil)))) (sFor (iEnumA (aSl (aVar 4) (oSome (aC (.int 1))) (oNone))) (tTupA 2 (tConsA (tName 7) (tConsA (tName 8) (tNilA)))) (sDrop (aBM "list" appendM (aVar 1) (aCons (aTup (aCons (aOp addA (aVar 3) (aTup (aCons (aVar 7) (aNil)))) (aCons (aVar 8) (aCons (aOp addA (aVar 5) (aVar 6)) (aNil))))) (aNil)))))) (sNext))))) (sRet (aVar 1)))
theorem ok_parts_of (h : Hd P w K mg base T) {k : Nat} {A_is_integer : ASp} {A : ASp} (c_is_integer : CalA P w K mg base T k "is_integer" A_is_integer)
    (len : ∀ va S R RE, A va S R RE → va.length = 1) (pure : ∀ va S R RE, A va S R RE → rd_parts_of K A_is_integer { nx := fun _ S' => R .non S', rt := R, ex := fun x _ S' => RE x S' } (astart N_parts_of va) S) : CalA P w K mg base T (k + 1) "parts_of" A :=
  cal_of h.D_parts_of sc_parts_of (fun _ _ _ _ _ _ us hl => match us, hl with | [_], _ => rfl) len pure fun A outer s H E hr =>
    iss_cons (is_par (i := 1) (j := 2) rfl sc_parts_of.nd rfl rfl (by decide) rfl rfl (ia_cons (ie_lst (ia_cons (ie_tup (ia_cons (ie_tup (ia_nil)) (ia_cons (iv 0) (ia_cons (ie_int) (ia_nil))))) (ia_nil))) (ia_cons (ie_int) (ia_nil))))
      (iss_cons (is_while (passes_of rfl) (it_cmp oA_lt (iv 2) (ie_callB cA_len rfl h.n_len (by decide +kernel) (ia_cons (iv 1) (ia_nil))) (nomark _)) (iss_cons (is_asg (ie_ix (iv 1) (iv 2)) (ig_tup rfl (igs_cons (ig_name (i := 3) sc_parts_of.nd rfl (.inl rfl)) (igs_cons (ig_name (i := 4) sc_parts_of.nd rfl (.inl rfl)) (igs_cons (ig_name (i := 5) sc_parts_of.nd rfl (.inl rfl)) (igs_nil))))))
      (iss_cons (is_aug (j := 2) sc_parts_of.nd rfl (.inl rfl) (ie_int) pA_add)
      (iss_one (is_if (it_w (iw_and (it_not (it_val (ie_isi (by decide +kernel) (iv 4) rfl h.n_isinstance (by decide +kernel) rfl h.n_str (by decide +kernel)))) (iw_and1 (it_not (it_val (ie_callA c_is_integer hr rfl (takes_of rfl rfl rfl rfl) (ia_cons (iv 4) (ia_nil)))))))) (iss_cons (is_set (i := 6) sc_parts_of.nd rfl (.inl rfl) (ie_callTy cA_int rfl h.n_int (by decide +kernel) (ia_cons (ie_cmp (oA_eq hr.units) (ie_ix (iv 4) (ie_int)) (ie_gstr rfl h.s_WITH) (nomark _)) (ia_nil))))
      (iss_one (is_for (passes_of rfl) rfl (ii_enum rfl h.n_enumerate (ie_sl (iv 4) (io_some (ie_int)) (io_none))) (ig_tup rfl (igs_cons (ig_name (i := 7) sc_parts_of.nd rfl (.inl rfl)) (igs_cons (ig_name (i := 8) sc_parts_of.nd rfl (.inl rfl)) (igs_nil)))) (iss_one (is_expr (ie_bm PySem.F.plainAttrs_list PySem.F.slot_list_append PySem.F.type_list_append mA_append (iv 1) (ia_cons (ie_tup (ia_cons (ie_op oA_add (iv 3) (ie_tup (ia_cons (iv 7) (ia_nil)))) (ia_cons (iv 8) (ia_cons (ie_op oA_add (iv 5) (iv 6)) (ia_nil))))) (ia_nil)))))))) (iss_nil))))))
      (iss_one (is_ret (iv 1))))
def rd_changed (K : PySem.W.Frag) (A_parts_of : ASp) (A_is_integer : ASp) (act : AA → AE) : AS :=
  sSeq (sSet 2 (aDt)) (sSeq (sFor (iSeq (aRev (aCall A_parts_of (aCons (aVar 0) (aNil))))) (tTupA 3 (tConsA (tName 3) (tConsA (tName 4) (tConsA (tName 5) (tNilA))))) (sIf (aOr (aTest (aIsi "str" (aVar 4))) (aTest (aCall A_is_integer (aCons (aVar 4) (aNil))))) (sDPut (act (aCons (aVar 4) (aCons (aVar 5) (aNil)))) (aVar 2) (aVar 3)) (sIf (aTest (aOp eqA (aOp ixA (aVar 4) (aC (.int 0))) (aC (.str "of")))) (sDPut (aTup (aCons (aC (.str "of")) (aCons (aOp dgetA (aVar 2) (aOp addA (aVar 3) (aTup (aCons (aC (.int 0)) (aNil))))) (aCons (aOp dgetA (aVar 2) (aOp addA (aVar 3) (aTup (aCons (aC (.int 1)) (aNil))))) (aNil))))) (aVar 2) (aVar 3)) (sDPut (aTup (aCons (aC (.str "with")) (aCons (aOp dgetA (aVar 2) (aOp addA (aVar 3) (aTup (aCons (aC (.int 0)) (aNil))))) (aNil)))) (aVar 2) (aVar 3))))) (sRet (aOp dgetA (aVar 2) (aTup (aNil)))))
theorem gv_changed {X : Cx} {k : Nat} {g : Addr} {cdv : Value} {A_parts_of : ASp} {A_is_integer : ASp} (h : Hd X.prog X.w X.K X.mg X.base T) (hr0 : A3.Room (k + 2) X.A) (c_parts_of : CalA X.prog X.w X.K X.mg X.base T k "parts_of" A_parts_of) (c_is_integer : CalA X.prog X.w X.K X.mg X.base T k "is_integer" A_is_integer) : GivesN X T N_changed "changed" (defScope s_changed) g cdv (defBody s_changed) "change" (rd_changed X.K A_parts_of A_is_integer) := fun aa s H act => by
  have hr : A3.Room k (zCx X N_changed "changed" (defScope s_changed) g cdv s H).A := (hr0.deeper _).mono (by omega)
  exact iss_cons (is_set (i := 2) sc_changed.nd rfl (.inl rfl) (ie_dt))
      (iss_cons (is_for PassesOwn.never rfl (ii_seq (ie_rev (ie_callA c_parts_of hr rfl takes0 (ia_cons (iv 0) (ia_nil))))) (ig_tup rfl (igs_cons (ig_name (i := 3) sc_changed.nd rfl (.inl rfl)) (igs_cons (ig_name (i := 4) sc_changed.nd rfl (.inl rfl)) (igs_cons (ig_name (i := 5) sc_changed.nd rfl (.inl rfl)) (igs_nil))))) (iss_one (is_if (it_w (iw_or (it_val (ie_isi (by decide +kernel) (iv 4) rfl h.n_isinstance (by decide +kernel) rfl h.n_str (by decide +kernel))) (iw_or1 (it_val (ie_callA c_is_integer hr rfl takes0 (ia_cons (iv 4) (ia_nil))))))) (iss_one (is_dput (hu_of hr.r) (iv 2) (iv 3) ((act _ _ _ _ _ _ _ _ (ia_cons (iv 4) (ia_cons (iv 5) (ia_nil))) rfl rfl)))) (iss_one (is_if (it_cmp (oA_eq hr.units) (ie_ix (iv 4) (ie_int)) (ie_gstr rfl h.s_OF) (nomark _)) (iss_one (is_dput (hu_of hr.r) (iv 2) (iv 3) (ie_tup (ia_cons (ie_gstr rfl h.s_OF) (ia_cons (ie_dget (hu_of hr.r) (iv 2) (ie_op oA_add (iv 3) (ie_tup (ia_cons (ie_int) (ia_nil))))) (ia_cons (ie_dget (hu_of hr.r) (iv 2) (ie_op oA_add (iv 3) (ie_tup (ia_cons (ie_int) (ia_nil))))) (ia_nil))))))) (iss_one (is_dput (hu_of hr.r) (iv 2) (iv 3) (ie_tup (ia_cons (ie_gstr rfl h.s_WITH) (ia_cons (ie_dget (hu_of hr.r) (iv 2) (ie_op oA_add (iv 3) (ie_tup (ia_cons (ie_int) (ia_nil))))) (ia_nil)))))))))))
      (iss_one (is_ret (ie_dget (hu_of hr.r) (iv 2) (ie_tup (ia_nil))))))
def rd_moved (K : PySem.W.Frag) (A_parts_of : ASp) (A_is_integer : ASp) (mk : Addr → NdefX.NF) : AS :=
  sSeq (sNdef 2 mk) (sRet (aCallN N_changed 1 2 2 mk "moved.<locals>.change" N_moved__change [1] (sRet (aIf (aAnd (aTest (aCall A_is_integer (aCons (aVar 0) (aNil)))) (aTest (aOp geA (aVar 0) (aVar 1)))) (aOp addA (aVar 0) (aVar 2)) (aVar 0))) (rd_changed K A_parts_of A_is_integer) (aCons (aVar 0) (aCons (aVar 2) (aNil)))))
theorem ok_moved (h : Hd P w K mg base T) {j k : Nat} (hj : j + 2 ≤ k) {A_parts_of : ASp} {A_is_integer : ASp} {A : ASp} (c_parts_of : CalA P w K mg base T j "parts_of" A_parts_of) (c_is_integer : CalA P w K mg base T j "is_integer" A_is_integer)
    (len : ∀ va S R RE, A va S R RE → va.length = 2) (pure : ∀ mk, ∀ va S R RE, A va S R RE → rd_moved K A_parts_of A_is_integer mk { nx := fun _ S' => R .non S', rt := R, ex := fun x _ S' => RE x S' } (astart N_moved va) S) : CalA P w K mg base T (k + 1) "moved" A :=
  have hjk : j ≤ k := by omega
  cal_ofN h.D_moved sc_moved (fun _ _ _ _ _ _ us hl => match us, hl with | [_, _], _ => rfl) len pure fun A outer s H E hr =>
    ⟨_, iss_cons (is_ndef (st := n_moved__change) (i := 2) rfl h.L_moved rfl rfl h.lm_moved h.lu_moved (NdefX.ndef_free (sc := defScope s_moved) nd_moved__change) rfl rfl rfl sc_moved.nd rfl (.inl rfl) (.inl rfl))
      (iss_one (is_ret (ie_callN (mk := NdefX.NF.of n_moved__change "change" "moved.<locals>.change" (cloFrom _ (C8.fnScope n_moved__change).names [])) (scn := C8.fnScope n_moved__change) (bn := C8.fnBody n_moved__change) (fr := ["by"]) (js := [1]) h.D_changed rfl sc_changed rfl (.inl rfl) (fun _ _ _ _ _ _ us hl => match us, hl with | [_, _], _ => rfl) (fun g cdv => gv_changed h (hr.mono hj) c_parts_of c_is_integer) (hr.mono hj) (fun _ => rfl) (fun _ => rfl) (fun _ => rfl) (fun _ => rfl) (fun _ => rfl) (NdefX.ndef_free (sc := defScope s_moved) nd_moved__change) (NdefX.ndef_fr nd_moved__change) rfl sc_moved__change (fun c' _ _ _ us hl => match us, hl with | [_, _], _ => rfl) (fun A outer s H f c' hr2 => iss_one (is_ret (ie_if (it_w (iw_and (it_val (ie_callA c_is_integer hr2 rfl takes0 (ia_cons (iv 0) (ia_nil)))) (iw_and1 (it_cmp oA_ge (iv 0) (iv 1) (nomark _))))) (ie_op oA_add (iv 0) (iv 2)) (iv 0)))) (ia_cons (iv 0) (ia_cons (iv 2) (ia_nil))))))⟩
def rd_opened (K : PySem.W.Frag) (A_parts_of : ASp) (A_is_integer : ASp) (A_moved : ASp) (mk : Addr → NdefX.NF) : AS :=
  sSeq (sNdef 2 mk) (sRet (aCallN N_changed 1 2 2 mk "opened.<locals>.change" N_opened__change [1] (sSeq (sIf (aOr (aNot (aTest (aCall A_is_integer (aCons (aVar 0) (aNil))))) (aTest (aOp ltA (aVar 0) (aVar 1)))) (sRet (aVar 0)) (sNext)) (sRet (aIf (aTest (aOp eqA (aVar 0) (aVar 1))) (aCall A_moved (aCons (aVar 2) (aCons (aVar 1) (aNil)))) (aOp subA (aVar 0) (aC (.int 1)))))) (rd_changed K A_parts_of A_is_integer) (aCons (aVar 0) (aCons (aVar 2) (aNil)))))
theorem ok_opened (h : Hd P w K mg base T) {j k : Nat} (hj : j + 2 ≤ k) {A_parts_of : ASp} {A_is_integer : ASp} {A_moved : ASp} {A : ASp} (c_parts_of : CalA P w K mg base T j "parts_of" A_parts_of) (c_is_integer : CalA P w K mg base T j "is_integer" A_is_integer) (c_moved : CalA P w K mg base T j "moved" A_moved)
    (len : ∀ va S R RE, A va S R RE → va.length = 2) (pure : ∀ mk, ∀ va S R RE, A va S R RE → rd_opened K A_parts_of A_is_integer A_moved mk { nx := fun _ S' => R .non S', rt := R, ex := fun x _ S' => RE x S' } (astart N_opened va) S) : CalA P w K mg base T (k + 1) "opened" A :=
  have hjk : j ≤ k := by omega
  cal_ofN h.D_opened sc_opened (fun _ _ _ _ _ _ us hl => match us, hl with | [_, _], _ => rfl) len pure fun A outer s H E hr =>
    ⟨_, iss_cons (is_ndef (st := n_opened__change) (i := 2) rfl h.L_opened rfl rfl h.lm_opened h.lu_opened (NdefX.ndef_free (sc := defScope s_opened) nd_opened__change) rfl rfl rfl sc_opened.nd rfl (.inl rfl) (.inl rfl))
      (iss_one (is_ret (ie_callN (mk := NdefX.NF.of n_opened__change "change" "opened.<locals>.change" (cloFrom _ (C8.fnScope n_opened__change).names [])) (scn := C8.fnScope n_opened__change) (bn := C8.fnBody n_opened__change) (fr := ["other"]) (js := [1]) h.D_changed rfl sc_changed rfl (.inl rfl) (fun _ _ _ _ _ _ us hl => match us, hl with | [_, _], _ => rfl) (fun g cdv => gv_changed h (hr.mono hj) c_parts_of c_is_integer) (hr.mono hj) (fun _ => rfl) (fun _ => rfl) (fun _ => rfl) (fun _ => rfl) (fun _ => rfl) (NdefX.ndef_free (sc := defScope s_opened) nd_opened__change) (NdefX.ndef_fr nd_opened__change) rfl sc_opened__change (fun c' _ _ _ us hl => match us, hl with | [_, _], _ => rfl) (fun A outer s H f c' hr2 => iss_cons (is_if (it_w (iw_or (it_not (it_val (ie_callA c_is_integer hr2 rfl takes0 (ia_cons (iv 0) (ia_nil))))) (iw_or1 (it_cmp oA_lt (iv 0) (iv 1) (nomark _))))) (iss_one (is_ret (iv 0))) (iss_nil))
      (iss_one (is_ret (ie_if (it_cmp (oA_eq hr2.units) (iv 0) (iv 1) (nomark _)) (ie_callA c_moved hr2 rfl takes0 (ia_cons (iv 2) (ia_cons (iv 1) (ia_nil)))) (ie_op oA_sub (iv 0) (ie_int)))))) (ia_cons (iv 0) (ia_cons (iv 2) (ia_nil))))))⟩
def rd_grown (K : PySem.W.Frag) (A_parts_of : ASp) : AS :=
  sSeq (sSet 1 (aCall A_parts_of (aCons (aVar 0) (aNil)))) (sSeq (sIf (aOr (aTest (aOp gtA (aCB lenC (aCons (aVar 1) (aNil))) (aC (.int 2000)))) (aTest (aOp gtA (aCB maxC (aCons (aLc (iSeq (aVar 1)) (tTupA 3 (tConsA (tName 2) (tConsA (tName 3) (tConsA (tName 4) (tNilA))))) (aYes) (aCB lenC (aCons (aVar 2) (aNil))) [2, 3, 4]) (aNil))) (aC (.int 200))))) (sNever) (sNext)) (sRet (aVar 0)))
theorem ok_grown (h : Hd P w K mg base T) {k : Nat} {A_parts_of : ASp} {A : ASp} (c_parts_of : CalA P w K mg base T k "parts_of" A_parts_of)
    (len : ∀ va S R RE, A va S R RE → va.length = 1) (pure : ∀ va S R RE, A va S R RE → rd_grown K A_parts_of { nx := fun _ S' => R .non S', rt := R, ex := fun x _ S' => RE x S' } (astart N_grown va) S) : CalA P w K mg base T (k + 1) "grown" A :=
  cal_of h.D_grown sc_grown (fun _ _ _ _ _ _ us hl => match us, hl with | [_], _ => rfl) len pure fun A outer s H E hr =>
    iss_cons (is_set (i := 1) sc_grown.nd rfl (.inl rfl) (ie_callA c_parts_of hr rfl (takes_of rfl rfl rfl rfl) (ia_cons (iv 0) (ia_nil))))
      (iss_cons (is_if (it_w (iw_or (it_cmp oA_gt (ie_callB cA_len rfl h.n_len (by decide +kernel) (ia_cons (iv 1) (ia_nil))) (ie_gint rfl h.i_MOST_GROWN) (nomark _)) (iw_or1 (it_cmp oA_gt (ie_callB (cA_max rfl) rfl h.n_max (by decide +kernel) (ia_cons (ie_lc (own := [("path", 2), ("part", 3), ("deep", 4)]) rfl sc_grown.nd (ii_seq (iv 1)) (blkOk_by (own := [("path", 2), ("part", 3), ("deep", 4)]) (N := N_grown) (sc := defScope s_grown) (by decide +kernel)) (fun _ _ _ _ _ => igv_tup rfl (igvs_cons (igv_name (i := 2) sc_grown.nd rfl (by first | exact .inl rfl | exact .inr rfl) (by decide)) (igvs_cons (igv_name (i := 3) sc_grown.nd rfl (by first | exact .inl rfl | exact .inr rfl) (by decide)) (igvs_cons (igv_name (i := 4) sc_grown.nd rfl (by first | exact .inl rfl | exact .inr rfl) (by decide)) (igvs_nil))))) (fun _ _ _ _ _ => its_nil) (fun _ _ _ _ _ => ie_callB cA_len rfl h.n_len (by decide +kernel) (ia_cons (iv 2) (ia_nil)))) (ia_nil))) (ie_gint rfl h.i_MOST_NESTED) (nomark _))))) (iss_one (is_never)) (iss_nil))
      (iss_one (is_ret (iv 0))))
def rd_is_redex (K : PySem.W.Frag) (A_is_integer : ASp) : AS :=
  sSeq (sIf (aOr (aTest (aIsi "str" (aVar 0))) (aOr (aTest (aCall A_is_integer (aCons (aVar 0) (aNil)))) (aTest (aOp neA (aOp ixA (aVar 0) (aC (.int 0))) (aC (.str "of")))))) (sRet (aC (.bl false))) (sNext)) (sRet (aAndV (aNotV (aIsi "str" (aOp ixA (aVar 0) (aC (.int 1))))) (aAndV (aNotV (aCall A_is_integer (aCons (aOp ixA (aVar 0) (aC (.int 1))) (aNil)))) (aOp eqA (aOp ixA (aOp ixA (aVar 0) (aC (.int 1))) (aC (.int 0))) (aC (.str "with"))))))
theorem ok_is_redex (h : Hd P w K mg base T) {k : Nat} {A_is_integer : ASp} {A : ASp} (c_is_integer : CalA P w K mg base T k "is_integer" A_is_integer)
    (len : ∀ va S R RE, A va S R RE → va.length = 1) (pure : ∀ va S R RE, A va S R RE → rd_is_redex K A_is_integer { nx := fun _ S' => R .non S', rt := R, ex := fun x _ S' => RE x S' } (astart N_is_redex va) S) : CalA P w K mg base T (k + 1) "is_redex" A :=
  cal_of h.D_is_redex sc_is_redex (fun _ _ _ _ _ _ us hl => match us, hl with | [_], _ => rfl) len pure fun A outer s H E hr =>
    iss_cons (is_if (it_w (iw_or (it_val (ie_isi (by decide +kernel) (iv 0) rfl h.n_isinstance (by decide +kernel) rfl h.n_str (by decide +kernel))) (iw_or (it_val (ie_callA c_is_integer hr rfl (takes_of rfl rfl rfl rfl) (ia_cons (iv 0) (ia_nil)))) (iw_or1 (it_cmp (oA_ne hr.units) (ie_ix (iv 0) (ie_int)) (ie_gstr rfl h.s_OF) (nomark _)))))) (iss_one (is_ret (ie_bl))) (iss_nil))
      (iss_one (is_ret (ie_and (ie_not (ie_isi (by decide +kernel) (ie_ix (iv 0) (ie_int)) rfl h.n_isinstance (by decide +kernel) rfl h.n_str (by decide +kernel))) (ie_and (ie_not (ie_callA c_is_integer hr rfl (takes_of rfl rfl rfl rfl) (ia_cons (ie_ix (iv 0) (ie_int)) (ia_nil)))) (ie_one (ie_cmp (oA_eq hr.units) (ie_ix (ie_ix (iv 0) (ie_int)) (ie_int)) (ie_gstr rfl h.s_WITH) (nomark _)))))))
def rd_at_path (K : PySem.W.Frag) : AS :=
  sSeq (sFor (iSeq (aVar 1)) (tName 2) (sSet 0 (aOp ixA (aVar 0) (aOp addA (aC (.int 1)) (aVar 2))))) (sRet (aVar 0))
theorem ok_at_path (h : Hd P w K mg base T) {k : Nat} {A : ASp}
    (len : ∀ va S R RE, A va S R RE → va.length = 2) (pure : ∀ va S R RE, A va S R RE → rd_at_path K { nx := fun _ S' => R .non S', rt := R, ex := fun x _ S' => RE x S' } (astart N_at_path va) S) : CalA P w K mg base T (k + 1) "at_path" A :=
  cal_of h.D_at_path sc_at_path (fun _ _ _ _ _ _ us hl => match us, hl with | [_, _], _ => rfl) len pure fun A outer s H E hr =>
    iss_cons (is_for (passes_of rfl) rfl (ii_seq (iv 1)) (ig_name (i := 2) sc_at_path.nd rfl (.inl rfl)) (iss_one (is_set (i := 0) sc_at_path.nd rfl (.inl rfl) (ie_ix (iv 0) (ie_op oA_add (ie_int) (iv 2))))))
      (iss_one (is_ret (iv 0)))
def rd_with_at (K : PySem.W.Frag) : AS :=
  sSeq (sSet 3 (aLst (aNil))) (sSeq (sFor (iSeq (aVar 1)) (tName 4) (sSeq (sDrop (aBM "list" appendM (aVar 3) (aCons (aTup (aCons (aVar 4) (aCons (aVar 0) (aNil)))) (aNil)))) (sSet 0 (aOp ixA (aVar 0) (aOp addA (aC (.int 1)) (aVar 4)))))) (sSeq (sSet 5 (aVar 2)) (sSeq (sFor (iSeq (aRev (aVar 3))) (tTupA 2 (tConsA (tName 4) (tConsA (tName 6) (tNilA)))) (sSet 5 (aOp addA (aOp addA (aSl (aVar 6) (oNone) (oSome (aOp addA (aC (.int 1)) (aVar 4)))) (aTup (aCons (aVar 5) (aNil)))) (aSl (aVar 6) (oSome (aOp addA (aC (.int 2)) (aVar 4))) (oNone))))) (sRet (aVar 5)))))
theorem ok_with_at (h : Hd P w K mg base T) {k : Nat} {A : ASp}
    (len : ∀ va S R RE, A va S R RE → va.length = 3) (pure : ∀ va S R RE, A va S R RE → rd_with_at K { nx := fun _ S' => R .non S', rt := R, ex := fun x _ S' => RE x S' } (astart N_with_at va) S) : CalA P w K mg base T (k + 1) "with_at" A :=
  cal_of h.D_with_at sc_with_at (fun _ _ _ _ _ _ us hl => match us, hl with | [_, _, _], _ => rfl) len pure fun A outer s H E hr =>
    iss_cons (is_set (i := 3) sc_with_at.nd rfl (.inl rfl) (ie_lst (ia_nil)))
      (iss_cons (is_for (passes_of rfl) rfl (ii_seq (iv 1)) (ig_name (i := 4) sc_with_at.nd rfl (.inl rfl)) (iss_cons (is_expr (ie_bm PySem.F.plainAttrs_list PySem.F.slot_list_append PySem.F.type_list_append mA_append (iv 3) (ia_cons (ie_tup (ia_cons (iv 4) (ia_cons (iv 0) (ia_nil)))) (ia_nil))))
      (iss_one (is_set (i := 0) sc_with_at.nd rfl (.inl rfl) (ie_ix (iv 0) (ie_op oA_add (ie_int) (iv 4)))))))
      (iss_cons (is_set (i := 5) sc_with_at.nd rfl (.inl rfl) (iv 2))
      (iss_cons (is_for (passes_of rfl) rfl (ii_seq (ie_rev (iv 3))) (ig_tup rfl (igs_cons (ig_name (i := 4) sc_with_at.nd rfl (.inl rfl)) (igs_cons (ig_name (i := 6) sc_with_at.nd rfl (.inl rfl)) (igs_nil)))) (iss_one (is_set (i := 5) sc_with_at.nd rfl (.inl rfl) (ie_op oA_add (ie_op oA_add (ie_sl (iv 6) (io_none) (io_some (ie_op oA_add (ie_int) (iv 4)))) (ie_tup (ia_cons (iv 5) (ia_nil)))) (ie_sl (iv 6) (io_some (ie_op oA_add (ie_int) (iv 4))) (io_none))))))
      (iss_one (is_ret (iv 5))))))
def rd_raw_step (K : PySem.W.Frag) (A_at_path : ASp) (A_opened : ASp) (A_with_at : ASp) (A_grown : ASp) : AS :=
  sSeq (sSet 2 (aCall A_at_path (aCons (aVar 0) (aCons (aVar 1) (aNil))))) (sRet (aCall A_grown (aCons (aCall A_with_at (aCons (aVar 0) (aCons (aVar 1) (aCons (aCall A_opened (aCons (aOp ixA (aOp ixA (aVar 2) (aC (.int 1))) (aC (.int 1))) (aCons (aOp ixA (aVar 2) (aC (.int 2))) (aNil)))) (aNil))))) (aNil))))
theorem ok_raw_step (h : Hd P w K mg base T) {k : Nat} {A_at_path : ASp} {A_opened : ASp} {A_with_at : ASp} {A_grown : ASp} {A : ASp} (c_at_path : CalA P w K mg base T k "at_path" A_at_path) (c_opened : CalA P w K mg base T k "opened" A_opened) (c_with_at : CalA P w K mg base T k "with_at" A_with_at) (c_grown : CalA P w K mg base T k "grown" A_grown)
    (len : ∀ va S R RE, A va S R RE → va.length = 2) (pure : ∀ va S R RE, A va S R RE → rd_raw_step K A_at_path A_opened A_with_at A_grown { nx := fun _ S' => R .non S', rt := R, ex := fun x _ S' => RE x S' } (astart N_raw_step va) S) : CalA P w K mg base T (k + 1) "raw_step" A :=
  cal_of h.D_raw_step sc_raw_step (fun _ _ _ _ _ _ us hl => match us, hl with | [_, _], _ => rfl) len pure fun A outer s H E hr =>
    iss_cons (is_set (i := 2) sc_raw_step.nd rfl (.inl rfl) (ie_callA c_at_path hr rfl (takes_of rfl rfl rfl rfl) (ia_cons (iv 0) (ia_cons (iv 1) (ia_nil)))))
      (iss_one (is_ret (ie_callA c_grown hr rfl (takes_of rfl rfl rfl rfl) (ia_cons (ie_callA c_with_at hr rfl (takes_of rfl rfl rfl rfl) (ia_cons (iv 0) (ia_cons (iv 1) (ia_cons (ie_callA c_opened hr rfl (takes_of rfl rfl rfl rfl) (ia_cons (ie_ix (ie_ix (iv 2) (ie_int)) (ie_int)) (ia_cons (ie_ix (iv 2) (ie_int)) (ia_nil)))) (ia_nil))))) (ia_nil)))))
def rd_head_path (K : PySem.W.Frag) (A_is_integer : ASp) (A_is_redex : ASp) : AS :=
  sSeq (sSet 1 (aTup (aNil))) (sSeq (sWhile (aAnd (aNot (aTest (aIsi "str" (aVar 0)))) (aAnd (aNot (aTest (aCall A_is_integer (aCons (aVar 0) (aNil))))) (aNot (aTest (aCall A_is_redex (aCons (aVar 0) (aNil))))))) (sPar 1 0 (aCons (aOp addA (aVar 1) (aTup (aCons (aC (.int 0)) (aNil)))) (aCons (aOp ixA (aVar 0) (aC (.int 1))) (aNil))))) (sRet (aIf (aTest (aCall A_is_redex (aCons (aVar 0) (aNil)))) (aVar 1) (aC .non))))
theorem ok_head_path (h : Hd P w K mg base T) {k : Nat} {A_is_integer : ASp} {A_is_redex : ASp} {A : ASp} (c_is_integer : CalA P w K mg base T k "is_integer" A_is_integer) (c_is_redex : CalA P w K mg base T k "is_redex" A_is_redex)
    (len : ∀ va S R RE, A va S R RE → va.length = 1) (pure : ∀ va S R RE, A va S R RE → rd_head_path K A_is_integer A_is_redex { nx := fun _ S' => R .non S', rt := R, ex := fun x _ S' => RE x S' } (astart N_head_path va) S) : CalA P w K mg base T (k + 1) "head_path" A :=
  cal_of h.D_head_path sc_head_path (fun _ _ _ _ _ _ us hl => match us, hl with | [_], _ => rfl) len pure fun A outer s H E hr =>
    iss_cons (is_set (i := 1) sc_head_path.nd rfl (.inl rfl) (ie_tup (ia_nil)))
      (iss_cons (is_while (passes_of rfl) (it_w (iw_and (it_not (it_val (ie_isi (by decide +kernel) (iv 0) rfl h.n_isinstance (by decide +kernel) rfl h.n_str (by decide +kernel)))) (iw_and (it_not (it_val (ie_callA c_is_integer hr rfl (takes_of rfl rfl rfl rfl) (ia_cons (iv 0) (ia_nil))))) (iw_and1 (it_not (it_val (ie_callA c_is_redex hr rfl (takes_of rfl rfl rfl rfl) (ia_cons (iv 0) (ia_nil))))))))) (iss_one (is_par (i := 1) (j := 0) rfl sc_head_path.nd rfl rfl (by decide) rfl rfl (ia_cons (ie_op oA_add (iv 1) (ie_tup (ia_cons (ie_int) (ia_nil)))) (ia_cons (ie_ix (iv 0) (ie_int)) (ia_nil))))))
      (iss_one (is_ret (ie_if (it_val (ie_callA c_is_redex hr rfl (takes_of rfl rfl rfl rfl) (ia_cons (iv 0) (ia_nil)))) (iv 1) (ie_non)))))
def rd_head_told (K : PySem.W.Frag) (A_check_term : ASp) (A_raw_indexed : ASp) (A_head_path : ASp) (A_raw_step : ASp) (A_raw_named : ASp) : AS :=
  sSeq (sDrop (aCall A_check_term (aCons (aVar 0) (aNil)))) (sSeq (sPar 1 2 (aCons (aCall A_raw_indexed (aCons (aVar 0) (aNil))) (aCons (aC (.int 0)) (aNil)))) (sSeq (sWhile (aTest (aOp isnotA (aCall A_head_path (aCons (aVar 1) (aNil))) (aC .non))) (sSeq (sIf (aTest (aOp eqA (aVar 2) (aC (.int 300)))) (sRet (aTup (aCons (aC (.str "more")) (aNil)))) (sNext)) (sPar 1 2 (aCons (aCall A_raw_step (aCons (aVar 1) (aCons (aCall A_head_path (aCons (aVar 1) (aNil))) (aNil)))) (aCons (aOp addA (aVar 2) (aC (.int 1))) (aNil)))))) (sRet (aTup (aCons (aC (.str "head")) (aCons (aCall A_raw_named (aCons (aVar 1) (aNil))) (aCons (aVar 2) (aNil))))))))
theorem ok_head_told (h : Hd P w K mg base T) {k : Nat} {A_check_term : ASp} {A_raw_indexed : ASp} {A_head_path : ASp} {A_raw_step : ASp} {A_raw_named : ASp} {A : ASp} (c_check_term : CalA P w K mg base T k "check_term" A_check_term) (c_raw_indexed : CalA P w K mg base T k "raw_indexed" A_raw_indexed) (c_head_path : CalA P w K mg base T k "head_path" A_head_path) (c_raw_step : CalA P w K mg base T k "raw_step" A_raw_step) (c_raw_named : CalA P w K mg base T k "raw_named" A_raw_named)
    (len : ∀ va S R RE, A va S R RE → va.length = 1) (pure : ∀ va S R RE, A va S R RE → rd_head_told K A_check_term A_raw_indexed A_head_path A_raw_step A_raw_named { nx := fun _ S' => R .non S', rt := R, ex := fun x _ S' => RE x S' } (astart N_head_told va) S) : CalA P w K mg base T (k + 1) "head_told" A :=
  cal_of h.D_head_told sc_head_told (fun _ _ _ _ _ _ us hl => match us, hl with | [_], _ => rfl) len pure fun A outer s H E hr =>
    iss_cons (is_expr (ie_callA c_check_term hr rfl (takes_of rfl rfl rfl rfl) (ia_cons (iv 0) (ia_nil))))
      (iss_cons (is_par (i := 1) (j := 2) rfl sc_head_told.nd rfl rfl (by decide) rfl rfl (ia_cons (ie_callA c_raw_indexed hr rfl (takes_of rfl rfl rfl rfl) (ia_cons (iv 0) (ia_nil))) (ia_cons (ie_int) (ia_nil))))
      (iss_cons (is_while (passes_of rfl) (it_cmp oA_isnot (ie_callA c_head_path hr rfl (takes_of rfl rfl rfl rfl) (ia_cons (iv 1) (ia_nil))) (ie_non) (nomark _)) (iss_cons (is_if (it_cmp (oA_eq hr.units) (iv 2) (ie_gint rfl h.i_MOST_STEPS) (nomark _)) (iss_one (is_ret (ie_tup (ia_cons (ie_str) (ia_nil))))) (iss_nil))
      (iss_one (is_par (i := 1) (j := 2) rfl sc_head_told.nd rfl rfl (by decide) rfl rfl (ia_cons (ie_callA c_raw_step hr rfl (takes_of rfl rfl rfl rfl) (ia_cons (iv 1) (ia_cons (ie_callA c_head_path hr rfl (takes_of rfl rfl rfl rfl) (ia_cons (iv 1) (ia_nil))) (ia_nil)))) (ia_cons (ie_op oA_add (iv 2) (ie_int)) (ia_nil)))))))
      (iss_one (is_ret (ie_tup (ia_cons (ie_str) (ia_cons (ie_callA c_raw_named hr rfl (takes_of rfl rfl rfl rfl) (ia_cons (iv 1) (ia_nil))) (ia_cons (iv 2) (ia_nil)))))))))
def rd_has_head (K : PySem.W.Frag) (A_head_told : ASp) : AS :=
  sRet (aOp eqA (aOp ixA (aCall A_head_told (aCons (aVar 0) (aNil))) (aC (.int 0))) (aC (.str "head")))
theorem ok_has_head (h : Hd P w K mg base T) {k : Nat} {A_head_told : ASp} {A : ASp} (c_head_told : CalA P w K mg base T k "head_told" A_head_told)
    (len : ∀ va S R RE, A va S R RE → va.length = 1) (pure : ∀ va S R RE, A va S R RE → rd_has_head K A_head_told { nx := fun _ S' => R .non S', rt := R, ex := fun x _ S' => RE x S' } (astart N_has_head va) S) : CalA P w K mg base T (k + 1) "has_head" A :=
  cal_of h.D_has_head sc_has_head (fun _ _ _ _ _ _ us hl => match us, hl with | [_], _ => rfl) len pure fun A outer s H E hr =>
    iss_one (is_ret (ie_cmp (oA_eq hr.units) (ie_ix (ie_callA c_head_told hr rfl (takes_of rfl rfl rfl rfl) (ia_cons (iv 0) (ia_nil))) (ie_int)) (ie_str) (nomark _)))
def rd_head_after (K : PySem.W.Frag) (A_check_term : ASp) (A_head_told : ASp) : AS :=
  sSeq (sDrop (aCall A_check_term (aCons (aVar 0) (aNil)))) (sSeq (sFor (iSeq (aVar 1)) (tName 2) (sSeq (sDrop (aCall A_check_term (aCons (aVar 2) (aNil)))) (sSet 0 (aTup (aCons (aC (.str "of")) (aCons (aVar 0) (aCons (aVar 2) (aNil)))))))) (sRet (aCall A_head_told (aCons (aVar 0) (aNil)))))
theorem ok_head_after (h : Hd P w K mg base T) {k : Nat} {A_check_term : ASp} {A_head_told : ASp} {A : ASp} (c_check_term : CalA P w K mg base T k "check_term" A_check_term) (c_head_told : CalA P w K mg base T k "head_told" A_head_told)
    (len : ∀ va S R RE, A va S R RE → va.length = 2) (pure : ∀ va S R RE, A va S R RE → rd_head_after K A_check_term A_head_told { nx := fun _ S' => R .non S', rt := R, ex := fun x _ S' => RE x S' } (astart N_head_after va) S) : CalA P w K mg base T (k + 1) "head_after" A :=
  cal_of h.D_head_after sc_head_after (fun _ _ _ _ _ _ us hl => match us, hl with | [_, _], _ => rfl) len pure fun A outer s H E hr =>
    iss_cons (is_expr (ie_callA c_check_term hr rfl (takes_of rfl rfl rfl rfl) (ia_cons (iv 0) (ia_nil))))
      (iss_cons (is_for (passes_of rfl) rfl (ii_seq (iv 1)) (ig_name (i := 2) sc_head_after.nd rfl (.inl rfl)) (iss_cons (is_expr (ie_callA c_check_term hr rfl (takes_of rfl rfl rfl rfl) (ia_cons (iv 2) (ia_nil))))
      (iss_one (is_set (i := 0) sc_head_after.nd rfl (.inl rfl) (ie_tup (ia_cons (ie_gstr rfl h.s_OF) (ia_cons (iv 0) (ia_cons (iv 2) (ia_nil)))))))))
      (iss_one (is_ret (ie_callA c_head_told hr rfl (takes_of rfl rfl rfl rfl) (ia_cons (iv 0) (ia_nil))))))
def rd__law_hand (K : PySem.W.Frag) : AS :=
  sSeq (sSet 1 (aLc (iSeq (aSl (aVar 0) (oNone) (oSome (aC (.int 63))))) (tName 2) (aYes) (aCB absC (aCons (aCB intC (aCons (aVar 2) (aNil))) (aNil))) [2])) (sRet (aLst (aCons (aVar 1) (aCons (aC (.int 0)) (aCons (aC (.int 0)) (aCons (aOp addA (aC (.int 97)) (aOp mulA (aC (.int 13)) (aCB lenC (aCons (aVar 1) (aNil))))) (aCons (aC (.int 0)) (aNil))))))))
theorem ok__law_hand (h : Hd P w K mg base T) {k : Nat} {A : ASp}
    (len : ∀ va S R RE, A va S R RE → va.length = 1) (pure : ∀ va S R RE, A va S R RE → rd__law_hand K { nx := fun _ S' => R .non S', rt := R, ex := fun x _ S' => RE x S' } (astart N__law_hand va) S) : CalA P w K mg base T (k + 1) "_law_hand" A :=
  cal_of h.D__law_hand sc__law_hand (fun _ _ _ _ _ _ us hl => match us, hl with | [_], _ => rfl) len pure fun A outer s H E hr =>
    iss_cons (is_setLc (i := 1) (own := [("cell", 2)]) rfl sc__law_hand.nd rfl rfl (sw_true rfl rfl rfl (by decide +kernel)) (ii_seq (ie_sl (iv 0) (io_none) (io_some (ie_int)))) (blkOk_by (own := [("cell", 2)]) (N := N__law_hand) (sc := defScope s__law_hand) (by decide +kernel)) (fun _ _ _ _ _ => igv_name (i := 2) sc__law_hand.nd rfl (by first | exact .inl rfl | exact .inr rfl) (by decide)) (fun _ _ _ _ _ => its_nil) (fun _ _ _ _ _ => ie_callB cA_abs rfl h.n_abs (by decide +kernel) (ia_cons (ie_callTy cA_int rfl h.n_int (by decide +kernel) (ia_cons (iv 2) (ia_nil))) (ia_nil))))
      (iss_one (is_ret (ie_lst (ia_cons (iv 1) (ia_cons (ie_int) (ia_cons (ie_int) (ia_cons (ie_op oA_add (ie_int) (ie_op oA_mul (ie_int) (ie_callB cA_len rfl h.n_len (by decide +kernel) (ia_cons (iv 1) (ia_nil))))) (ia_cons (ie_int) (ia_nil)))))))))
def rd__law_draw (K : PySem.W.Frag) : AS :=
  sSeq (sIf (aAnd (aTest (aOp eqA (aOp ixA (aVar 0) (aC (.int 2))) (aC (.int 0)))) (aTest (aOp ltA (aOp ixA (aVar 0) (aC (.int 1))) (aCB lenC (aCons (aOp ixA (aVar 0) (aC (.int 0))) (aNil)))))) (sSeq (sSet 2 (aOp ixA (aOp ixA (aVar 0) (aC (.int 0))) (aOp ixA (aVar 0) (aC (.int 1))))) (sSeq (sSub (aOp addA (aOp ixA (aVar 0) (aC (.int 1))) (aC (.int 1))) (aVar 0) (aC (.int 1))) (sSeq (sSub (aOp modA (aCB intC (aCons (aOp addA (aOp addA (aOp mulA (aOp ixA (aVar 0) (aC (.int 3))) (aC (.int 69621))) (aOp mulA (aVar 2) (aC (.int 40692)))) (aC (.int 31))) (aNil))) (aC (.int 2147483629))) (aVar 0) (aC (.int 3))) (sIf (aTest (aOp geA (aVar 2) (aOp powA (aC (.int 10)) (aC (.int 18))))) (sSub (aVar 2) (aVar 0) (aC (.int 2))) (sNext))))) (sNext)) (sSeq (sIf (aTest (aOp gtA (aOp ixA (aVar 0) (aC (.int 2))) (aC (.int 0)))) (sSeq (sSet 3 (aOp modA (aCB intC (aCons (aOp ixA (aVar 0) (aC (.int 2))) (aNil))) (aVar 1))) (sSeq (sSub (aOp fdivA (aOp ixA (aVar 0) (aC (.int 2))) (aVar 1)) (aVar 0) (aC (.int 2))) (sRet (aVar 3)))) (sNext)) (sSeq (sSub (aOp addA (aOp ixA (aVar 0) (aC (.int 4))) (aC (.int 1))) (aVar 0) (aC (.int 4))) (sSeq (sSet 4 (aOp modA (aCB intC (aCons (aOp mulA (aCB intC (aCons (aOp addA (aOp ixA (aVar 0) (aC (.int 3))) (aOp mulA (aC (.int 7919)) (aOp ixA (aVar 0) (aC (.int 4))))) (aNil))) (aC (.int 48271))) (aNil))) (aC (.int 2147483647)))) (sSeq (sSet 4 (aOp modA (aCB intC (aCons (aOp mulA (aVar 4) (aOp addA (aOp fdivA (aVar 4) (aC (.int 1009))) (aC (.int 69621)))) (aNil))) (aC (.int 2147483647)))) (sSeq (sSet 4 (aOp modA (aCB intC (aCons (aOp mulA (aVar 4) (aOp addA (aOp fdivA (aVar 4) (aC (.int 2003))) (aC (.int 40014)))) (aNil))) (aC (.int 2147483563)))) (sRet (aOp modA (aCB intC (aCons (aOp fdivA (aVar 4) (aC (.int 16))) (aNil))) (aVar 1))))))))
theorem ok__law_draw (h : Hd P w K mg base T) {k : Nat} {A : ASp}
    (len : ∀ va S R RE, A va S R RE → va.length = 2) (pure : ∀ va S R RE, A va S R RE → rd__law_draw K { nx := fun _ S' => R .non S', rt := R, ex := fun x _ S' => RE x S' } (astart N__law_draw va) S) : CalA P w K mg base T (k + 1) "_law_draw" A :=
  cal_of h.D__law_draw sc__law_draw (fun _ _ _ _ _ _ us hl => match us, hl with | [_, _], _ => rfl) len pure fun A outer s H E hr =>
    iss_cons (is_if (it_w (iw_and (it_cmp (oA_eq hr.units) (ie_ix (iv 0) (ie_int)) (ie_int) (nomark _)) (iw_and1 (it_cmp oA_lt (ie_ix (iv 0) (ie_int)) (ie_callB cA_len rfl h.n_len (by decide +kernel) (ia_cons (ie_ix (iv 0) (ie_int)) (ia_nil))) (nomark _))))) (iss_cons (is_set (i := 2) sc__law_draw.nd rfl (.inl rfl) (ie_ix (ie_ix (iv 0) (ie_int)) (ie_ix (iv 0) (ie_int))))
      (iss_cons (is_lset (iv 0) (ie_int) (ie_op oA_add (ie_ix (iv 0) (ie_int)) (ie_int)))
      (iss_cons (is_lset (iv 0) (ie_int) (ie_op oA_mod (ie_callTy cA_int rfl h.n_int (by decide +kernel) (ia_cons (ie_op oA_add (ie_op oA_add (ie_op oA_mul (ie_ix (iv 0) (ie_int)) (ie_int)) (ie_op oA_mul (iv 2) (ie_int))) (ie_int)) (ia_nil))) (ie_int)))
      (iss_one (is_if (it_cmp oA_ge (iv 2) (ie_op oA_pow (ie_int) (ie_int)) (nomark _)) (iss_one (is_lset (iv 0) (ie_int) (iv 2))) (iss_nil)))))) (iss_nil))
      (iss_cons (is_if (it_cmp oA_gt (ie_ix (iv 0) (ie_int)) (ie_int) (nomark _)) (iss_cons (is_set (i := 3) sc__law_draw.nd rfl (.inl rfl) (ie_op oA_mod (ie_callTy cA_int rfl h.n_int (by decide +kernel) (ia_cons (ie_ix (iv 0) (ie_int)) (ia_nil))) (iv 1)))
      (iss_cons (is_lset (iv 0) (ie_int) (ie_op oA_fdiv (ie_ix (iv 0) (ie_int)) (iv 1)))
      (iss_one (is_ret (iv 3))))) (iss_nil))
      (iss_cons (is_lset (iv 0) (ie_int) (ie_op oA_add (ie_ix (iv 0) (ie_int)) (ie_int)))
      (iss_cons (is_set (i := 4) sc__law_draw.nd rfl (.inl rfl) (ie_op oA_mod (ie_callTy cA_int rfl h.n_int (by decide +kernel) (ia_cons (ie_op oA_mul (ie_callTy cA_int rfl h.n_int (by decide +kernel) (ia_cons (ie_op oA_add (ie_ix (iv 0) (ie_int)) (ie_op oA_mul (ie_int) (ie_ix (iv 0) (ie_int)))) (ia_nil))) (ie_int)) (ia_nil))) (ie_int)))
      (iss_cons (is_set (i := 4) sc__law_draw.nd rfl (.inl rfl) (ie_op oA_mod (ie_callTy cA_int rfl h.n_int (by decide +kernel) (ia_cons (ie_op oA_mul (iv 4) (ie_op oA_add (ie_op oA_fdiv (iv 4) (ie_int)) (ie_int))) (ia_nil))) (ie_int)))
      (iss_cons (is_set (i := 4) sc__law_draw.nd rfl (.inl rfl) (ie_op oA_mod (ie_callTy cA_int rfl h.n_int (by decide +kernel) (ia_cons (ie_op oA_mul (iv 4) (ie_op oA_add (ie_op oA_fdiv (iv 4) (ie_int)) (ie_int))) (ia_nil))) (ie_int)))
      (iss_one (is_ret (ie_op oA_mod (ie_callTy cA_int rfl h.n_int (by decide +kernel) (ia_cons (ie_op oA_fdiv (iv 4) (ie_int)) (ia_nil))) (iv 1)))))))))
def rd__law_any (K : PySem.W.Frag) (A__law_draw : ASp) : AS :=
  sRet (aOp ixA (aVar 1) (aCall A__law_draw (aCons (aVar 0) (aCons (aCB lenC (aCons (aVar 1) (aNil))) (aNil)))))
theorem ok__law_any (h : Hd P w K mg base T) {k : Nat} {A__law_draw : ASp} {A : ASp} (c__law_draw : CalA P w K mg base T k "_law_draw" A__law_draw)
    (len : ∀ va S R RE, A va S R RE → va.length = 2) (pure : ∀ va S R RE, A va S R RE → rd__law_any K A__law_draw { nx := fun _ S' => R .non S', rt := R, ex := fun x _ S' => RE x S' } (astart N__law_any va) S) : CalA P w K mg base T (k + 1) "_law_any" A :=
  cal_of h.D__law_any sc__law_any (fun _ _ _ _ _ _ us hl => match us, hl with | [_, _], _ => rfl) len pure fun A outer s H E hr =>
    iss_one (is_ret (ie_ix (iv 1) (ie_callA c__law_draw hr rfl (takes_of rfl rfl rfl rfl) (ia_cons (iv 0) (ia_cons (ie_callB cA_len rfl h.n_len (by decide +kernel) (ia_cons (iv 1) (ia_nil))) (ia_nil))))))
def rd__law_is (K : PySem.W.Frag) (A__law_is : ASp) : AS :=
  sSeq (sIf (aOr (aTest (aOp isA (aVar 1) (aC .non))) (aTest (aOp isA (aVar 0) (aC .non)))) (sRet (aAndV (aOp isA (aVar 1) (aC .non)) (aOp isA (aVar 0) (aC .non)))) (sNext)) (sSeq (sIf (aOr (aTest (aIsi "tuple" (aVar 1))) (aTest (aIsi "list" (aVar 1)))) (sSeq (sIf (aTest (aOp neA (aIsi "tuple" (aVar 0)) (aIsi "tuple" (aVar 1)))) (sRet (aC (.bl false))) (sNext)) (sSeq (sIf (aTest (aOp neA (aIsi "list" (aVar 0)) (aIsi "list" (aVar 1)))) (sRet (aC (.bl false))) (sNext)) (sRet (aAndV (aOp eqA (aCB lenC (aCons (aVar 0) (aNil))) (aCB lenC (aCons (aVar 1) (aNil)))) (aCB allC (aCons (aLc (iZip (aVar 0) (aVar 1)) (tTupA 2 (tConsA (tName 2) (tConsA (tName 3) (tNilA)))) (aYes) (aCall A__law_is (aCons (aVar 2) (aCons (aVar 3) (aNil)))) [2, 3]) (aNil))))))) (sNext)) (sSeq (sIf (aOr (aTest (aOp neA (aIsi "bool" (aVar 0)) (aIsi "bool" (aVar 1)))) (aTest (aOp neA (aIsi "int" (aVar 0)) (aIsi "int" (aVar 1))))) (sRet (aC (.bl false))) (sNext)) (sRet (aAndV (aOp eqA (aIsi "str" (aVar 0)) (aIsi "str" (aVar 1))) (aOp eqA (aVar 0) (aVar 1))))))
theorem ok__law_is (h : Hd P w K mg base T) {k : Nat} {A__law_is : ASp} {A : ASp} (c__law_is : CalA P w K mg base T k "_law_is" A__law_is)
    (len : ∀ va S R RE, A va S R RE → va.length = 2) (pure : ∀ va S R RE, A va S R RE → rd__law_is K A__law_is { nx := fun _ S' => R .non S', rt := R, ex := fun x _ S' => RE x S' } (astart N__law_is va) S) : CalA P w K mg base T (k + 1) "_law_is" A :=
  cal_of h.D__law_is sc__law_is (fun _ _ _ _ _ _ us hl => match us, hl with | [_, _], _ => rfl) len pure fun A outer s H E hr =>
    iss_cons (is_if (it_w (iw_or (it_cmp oA_is (iv 1) (ie_non) (nomark _)) (iw_or1 (it_cmp oA_is (iv 0) (ie_non) (nomark _))))) (iss_one (is_ret (ie_and (ie_cmp oA_is (iv 1) (ie_non) (nomark _)) (ie_one (ie_cmp oA_is (iv 0) (ie_non) (nomark _)))))) (iss_nil))
      (iss_cons (is_if (it_w (iw_or (it_val (ie_isi (by decide +kernel) (iv 1) rfl h.n_isinstance (by decide +kernel) rfl h.n_tuple (by decide +kernel))) (iw_or1 (it_val (ie_isi (by decide +kernel) (iv 1) rfl h.n_isinstance (by decide +kernel) rfl h.n_list (by decide +kernel)))))) (iss_cons (is_if (it_cmp (oA_ne hr.units) (ie_isi (by decide +kernel) (iv 0) rfl h.n_isinstance (by decide +kernel) rfl h.n_tuple (by decide +kernel)) (ie_isi (by decide +kernel) (iv 1) rfl h.n_isinstance (by decide +kernel) rfl h.n_tuple (by decide +kernel)) (nomark _)) (iss_one (is_ret (ie_bl))) (iss_nil))
      (iss_cons (is_if (it_cmp (oA_ne hr.units) (ie_isi (by decide +kernel) (iv 0) rfl h.n_isinstance (by decide +kernel) rfl h.n_list (by decide +kernel)) (ie_isi (by decide +kernel) (iv 1) rfl h.n_isinstance (by decide +kernel) rfl h.n_list (by decide +kernel)) (nomark _)) (iss_one (is_ret (ie_bl))) (iss_nil))
      (iss_one (is_ret (ie_and (ie_cmp (oA_eq hr.units) (ie_callB cA_len rfl h.n_len (by decide +kernel) (ia_cons (iv 0) (ia_nil))) (ie_callB cA_len rfl h.n_len (by decide +kernel) (ia_cons (iv 1) (ia_nil))) (nomark _)) (ie_one (ie_callB (cA_all rfl) rfl h.n_all (by decide +kernel) (ia_cons (ie_lc (own := [("one", 2), ("other", 3)]) rfl sc__law_is.nd (ii_zip rfl h.n_zip (iv 0) (iv 1)) (blkOk_by (own := [("one", 2), ("other", 3)]) (N := N__law_is) (sc := defScope s__law_is) (by decide +kernel)) (fun _ _ _ _ _ => igv_tup rfl (igvs_cons (igv_name (i := 2) sc__law_is.nd rfl (by first | exact .inl rfl | exact .inr rfl) (by decide)) (igvs_cons (igv_name (i := 3) sc__law_is.nd rfl (by first | exact .inl rfl | exact .inr rfl) (by decide)) (igvs_nil)))) (fun _ _ _ _ _ => its_nil) (fun _ _ _ _ _ => ie_callA c__law_is hr rfl takes0 (ia_cons (iv 2) (ia_cons (iv 3) (ia_nil))))) (ia_nil))))))))) (iss_nil))
      (iss_cons (is_if (it_w (iw_or (it_cmp (oA_ne hr.units) (ie_isi (by decide +kernel) (iv 0) rfl h.n_isinstance (by decide +kernel) rfl h.n_bool (by decide +kernel)) (ie_isi (by decide +kernel) (iv 1) rfl h.n_isinstance (by decide +kernel) rfl h.n_bool (by decide +kernel)) (nomark _)) (iw_or1 (it_cmp (oA_ne hr.units) (ie_isi (by decide +kernel) (iv 0) rfl h.n_isinstance (by decide +kernel) rfl h.n_int (by decide +kernel)) (ie_isi (by decide +kernel) (iv 1) rfl h.n_isinstance (by decide +kernel) rfl h.n_int (by decide +kernel)) (nomark _))))) (iss_one (is_ret (ie_bl))) (iss_nil))
      (iss_one (is_ret (ie_and (ie_cmp (oA_eq hr.units) (ie_isi (by decide +kernel) (iv 0) rfl h.n_isinstance (by decide +kernel) rfl h.n_str (by decide +kernel)) (ie_isi (by decide +kernel) (iv 1) rfl h.n_isinstance (by decide +kernel) rfl h.n_str (by decide +kernel)) (nomark _)) (ie_one (ie_cmp (oA_eq hr.units) (iv 0) (iv 1) (nomark _))))))))
def rd__law_word (K : PySem.W.Frag) (act : AE) : AS :=
  sSeq (sSet 1 (aC (.str "!other"))) (sSeq (sTry K (He.ga K "TermError") 2 (sSet 1 (act)) (fun a C d => sSeq (sSet 3 (aLst (aCons (aIsE K a C d (.ref (He.ga K "NoTerm")) 2) (aCons (aIsE K a C d (.ref (He.ga K "TooMany")) 2) (aNil))))) (sIf (aAnd (aTest (aOp eqA (aBM "list" countM (aVar 3) (aCons (aC (.bl true)) (aNil))) (aC (.int 1)))) (aTest (aIsE K a C d (.type "ValueError") 2))) (sSet 1 (aOp ixA (aLst (aCons (aC (.str "!NoTerm")) (aCons (aC (.str "!TooMany")) (aNil)))) (aBM "list" indexM (aVar 3) (aCons (aC (.bl true)) (aNil))))) (sNext)))) (sRet (aVar 1)))
theorem gv__law_word {X : Cx} {k : Nat} {g : Addr} {cdv : Value} (h : Hd X.prog X.w X.K X.mg X.base T) (hr0 : A3.Room (k + 2) X.A) : GivesA X T N__law_word "_law_word" (defScope s__law_word) g cdv (defBody s__law_word) "call" (rd__law_word X.K) := fun aa s H act =>
  have hr : A3.Room (k + 1) (zCx X N__law_word "_law_word" (defScope s__law_word) g cdv s H).A := hr0.deeper _
  iss_cons (is_set (i := 1) sc__law_word.nd rfl (.inl rfl) (ie_str))
      (iss_cons (is_try (i := 2) rfl rfl sc__law_word.nd rfl rfl ⟨rfl, by decide, .inl h.g_TermError⟩ takes0 (fun W1 pn xe tk1 po1 => iss_one (is_set (i := 1) sc__law_word.nd rfl (.inl rfl) ((act _ _ _ _ _ tk1)))) (fun a oe C d pn hz hf => iss_cons (is_set (i := 3) sc__law_word.nd rfl (.inl rfl) (ie_lst (ia_cons (ie_isE (cv := .ref (He.ga X.K "NoTerm")) hz hf rfl h.n_isinstance (by decide +kernel) (pv 2) (pe_glob (v := .ref (He.ga X.K "NoTerm")) rfl h.g_NoTerm rfl) (fun _ e => e)) (ia_cons (ie_isE (cv := .ref (He.ga X.K "TooMany")) hz hf rfl h.n_isinstance (by decide +kernel) (pv 2) (pe_glob (v := .ref (He.ga X.K "TooMany")) rfl h.g_TooMany rfl) (fun _ e => e)) (ia_nil)))))
      (iss_one (is_if (it_w (iw_and (it_cmp (oA_eq hr.units) (ie_bm PySem.F.plainAttrs_list PySem.F.slot_list_count PySem.F.type_list_count mA_count (iv 3) (ia_cons (ie_bl) (ia_nil))) (ie_int) (nomark _)) (iw_and1 (it_val (ie_isE (cv := .ty "ValueError") hz hf rfl h.n_isinstance (by decide +kernel) (pv 2) (pe_bltn (v := .ty "ValueError") rfl h.n_ValueError (by decide +kernel) rfl) (fun _ e => e)))))) (iss_one (is_set (i := 1) sc__law_word.nd rfl (.inl rfl) (ie_ix (ie_lst (ia_cons (ie_str) (ia_cons (ie_str) (ia_nil)))) (ie_bm PySem.F.plainAttrs_list PySem.F.slot_list_index PySem.F.type_list_index mA_index (iv 3) (ia_cons (ie_bl) (ia_nil)))))) (iss_nil)))))
      (iss_one (is_ret (iv 1))))
def rd__law_term (K : PySem.W.Frag) (A__law_draw : ASp) (A__law_any : ASp) (A__law_term : ASp) : AS :=
  sSeq (sSet 3 (aIf (aTest (aOp gtA (aVar 1) (aC (.int 0)))) (aCall A__law_draw (aCons (aVar 0) (aCons (aC (.int 7)) (aNil)))) (aC (.int 0)))) (sSeq (sSet 4 (aCall A__law_any (aCons (aVar 0) (aCons (aLst (aCons (aC (.str "a")) (aCons (aC (.str "b")) (aCons (aC (.str "c")) (aCons (aC (.str "x")) (aNil)))))) (aNil))))) (sSeq (sIf (aTest (aOp eqA (aVar 3) (aC (.int 0)))) (sRet (aCall A__law_any (aCons (aVar 0) (aCons (aOp addA (aVar 2) (aLst (aCons (aC (.str "x")) (aCons (aC (.str "y")) (aNil))))) (aNil))))) (sNext)) (sSeq (sIf (aTest (aOp ltA (aVar 3) (aC (.int 3)))) (sRet (aTup (aCons (aC (.str "with")) (aCons (aVar 4) (aCons (aCall A__law_term (aCons (aVar 0) (aCons (aOp subA (aVar 1) (aC (.int 1))) (aCons (aOp addA (aVar 2) (aLst (aCons (aVar 4) (aNil)))) (aNil))))) (aNil)))))) (sNext)) (sSeq (sSet 5 (aCall A__law_term (aCons (aVar 0) (aCons (aOp subA (aVar 1) (aC (.int 1))) (aCons (aVar 2) (aNil)))))) (sSeq (sIf (aTest (aOp eqA (aVar 3) (aC (.int 3)))) (sRet (aTup (aCons (aC (.str "of")) (aCons (aCall A__law_term (aCons (aVar 0) (aCons (aOp subA (aVar 1) (aC (.int 1))) (aCons (aVar 2) (aNil))))) (aCons (aVar 5) (aNil)))))) (sNext)) (sRet (aTup (aCons (aC (.str "of")) (aCons (aTup (aCons (aC (.str "with")) (aCons (aVar 4) (aCons (aCall A__law_term (aCons (aVar 0) (aCons (aOp subA (aVar 1) (aC (.int 1))) (aCons (aOp addA (aVar 2) (aLst (aCons (aVar 4) (aNil)))) (aNil))))) (aNil))))) (aCons (aVar 5) (aNil)))))))))))
theorem ok__law_term (h : Hd P w K mg base T) {k : Nat} {A__law_draw : ASp} {A__law_any : ASp} {A__law_term : ASp} {A : ASp} (c__law_draw : CalA P w K mg base T k "_law_draw" A__law_draw) (c__law_any : CalA P w K mg base T k "_law_any" A__law_any) (c__law_term : CalA P w K mg base T k "_law_term" A__law_term)
    (len : ∀ va S R RE, A va S R RE → va.length = 3) (pure : ∀ va S R RE, A va S R RE → rd__law_term K A__law_draw A__law_any A__law_term { nx := fun _ S' => R .non S', rt := R, ex := fun x _ S' => RE x S' } (astart N__law_term va) S) : CalA P w K mg base T (k + 1) "_law_term" A :=
  cal_of h.D__law_term sc__law_term (fun _ _ _ _ _ _ us hl => match us, hl with | [_, _, _], _ => rfl) len pure fun A outer s H E hr =>
    iss_cons (is_set (i := 3) sc__law_term.nd rfl (.inl rfl) (ie_if (it_cmp oA_gt (iv 1) (ie_int) (nomark _)) (ie_callA c__law_draw hr rfl (takes_of rfl rfl rfl rfl) (ia_cons (iv 0) (ia_cons (ie_int) (ia_nil)))) (ie_int)))
      (iss_cons (is_set (i := 4) sc__law_term.nd rfl (.inl rfl) (ie_callA c__law_any hr rfl (takes_of rfl rfl rfl rfl) (ia_cons (iv 0) (ia_cons (ie_lst (ia_cons (ie_str) (ia_cons (ie_str) (ia_cons (ie_str) (ia_cons (ie_str) (ia_nil)))))) (ia_nil)))))
      (iss_cons (is_if (it_cmp (oA_eq hr.units) (iv 3) (ie_int) (nomark _)) (iss_one (is_ret (ie_callA c__law_any hr rfl (takes_of rfl rfl rfl rfl) (ia_cons (iv 0) (ia_cons (ie_op oA_add (iv 2) (ie_lst (ia_cons (ie_str) (ia_cons (ie_str) (ia_nil))))) (ia_nil)))))) (iss_nil))
      (iss_cons (is_if (it_cmp oA_lt (iv 3) (ie_int) (nomark _)) (iss_one (is_ret (ie_tup (ia_cons (ie_str) (ia_cons (iv 4) (ia_cons (ie_callA c__law_term hr rfl (takes_of rfl rfl rfl rfl) (ia_cons (iv 0) (ia_cons (ie_op oA_sub (iv 1) (ie_int)) (ia_cons (ie_op oA_add (iv 2) (ie_lst (ia_cons (iv 4) (ia_nil)))) (ia_nil))))) (ia_nil))))))) (iss_nil))
      (iss_cons (is_set (i := 5) sc__law_term.nd rfl (.inl rfl) (ie_callA c__law_term hr rfl (takes_of rfl rfl rfl rfl) (ia_cons (iv 0) (ia_cons (ie_op oA_sub (iv 1) (ie_int)) (ia_cons (iv 2) (ia_nil))))))
      (iss_cons (is_if (it_cmp (oA_eq hr.units) (iv 3) (ie_int) (nomark _)) (iss_one (is_ret (ie_tup (ia_cons (ie_str) (ia_cons (ie_callA c__law_term hr rfl (takes_of rfl rfl rfl rfl) (ia_cons (iv 0) (ia_cons (ie_op oA_sub (iv 1) (ie_int)) (ia_cons (iv 2) (ia_nil))))) (ia_cons (iv 5) (ia_nil))))))) (iss_nil))
      (iss_one (is_ret (ie_tup (ia_cons (ie_str) (ia_cons (ie_tup (ia_cons (ie_str) (ia_cons (iv 4) (ia_cons (ie_callA c__law_term hr rfl (takes_of rfl rfl rfl rfl) (ia_cons (iv 0) (ia_cons (ie_op oA_sub (iv 1) (ie_int)) (ia_cons (ie_op oA_add (iv 2) (ie_lst (ia_cons (iv 4) (ia_nil)))) (ia_nil))))) (ia_nil))))) (ia_cons (iv 5) (ia_nil))))))))))))
def rd__law_indexed (K : PySem.W.Frag) (A__law_indexed : ASp) : AS :=
  sSeq (sIf (aTest (aIsi "str" (aVar 0))) (sRet (aIf (aTest (aOp inA (aVar 0) (aVar 1))) (aBM "list" indexM (aVar 1) (aCons (aVar 0) (aNil))) (aVar 0))) (sNext)) (sSeq (sIf (aTest (aOp eqA (aOp ixA (aVar 0) (aC (.int 0))) (aC (.str "of")))) (sRet (aTup (aCons (aC (.str "of")) (aCons (aCall A__law_indexed (aCons (aOp ixA (aVar 0) (aC (.int 1))) (aCons (aVar 1) (aNil)))) (aCons (aCall A__law_indexed (aCons (aOp ixA (aVar 0) (aC (.int 2))) (aCons (aVar 1) (aNil)))) (aNil)))))) (sNext)) (sRet (aTup (aCons (aC (.str "with")) (aCons (aCall A__law_indexed (aCons (aOp ixA (aVar 0) (aC (.int 2))) (aCons (aOp addA (aLst (aCons (aOp ixA (aVar 0) (aC (.int 1))) (aNil))) (aVar 1)) (aNil)))) (aNil))))))
theorem ok__law_indexed (h : Hd P w K mg base T) {k : Nat} {A__law_indexed : ASp} {A : ASp} (c__law_indexed : CalA P w K mg base T k "_law_indexed" A__law_indexed)
    (len : ∀ va S R RE, A va S R RE → va.length = 2) (pure : ∀ va S R RE, A va S R RE → rd__law_indexed K A__law_indexed { nx := fun _ S' => R .non S', rt := R, ex := fun x _ S' => RE x S' } (astart N__law_indexed va) S) : CalA P w K mg base T (k + 1) "_law_indexed" A :=
  cal_of h.D__law_indexed sc__law_indexed (fun _ _ _ _ _ _ us hl => match us, hl with | [_, _], _ => rfl) len pure fun A outer s H E hr =>
    iss_cons (is_if (it_val (ie_isi (by decide +kernel) (iv 0) rfl h.n_isinstance (by decide +kernel) rfl h.n_str (by decide +kernel))) (iss_one (is_ret (ie_if (it_cmp (oA_in (hu_of hr.r)) (iv 0) (iv 1) (by with_unfolding_all rfl)) (ie_bm PySem.F.plainAttrs_list PySem.F.slot_list_index PySem.F.type_list_index mA_index (iv 1) (ia_cons (iv 0) (ia_nil))) (iv 0)))) (iss_nil))
      (iss_cons (is_if (it_cmp (oA_eq hr.units) (ie_ix (iv 0) (ie_int)) (ie_str) (nomark _)) (iss_one (is_ret (ie_tup (ia_cons (ie_str) (ia_cons (ie_callA c__law_indexed hr rfl (takes_of rfl rfl rfl rfl) (ia_cons (ie_ix (iv 0) (ie_int)) (ia_cons (iv 1) (ia_nil)))) (ia_cons (ie_callA c__law_indexed hr rfl (takes_of rfl rfl rfl rfl) (ia_cons (ie_ix (iv 0) (ie_int)) (ia_cons (iv 1) (ia_nil)))) (ia_nil))))))) (iss_nil))
      (iss_one (is_ret (ie_tup (ia_cons (ie_str) (ia_cons (ie_callA c__law_indexed hr rfl (takes_of rfl rfl rfl rfl) (ia_cons (ie_ix (iv 0) (ie_int)) (ia_cons (ie_op oA_add (ie_lst (ia_cons (ie_ix (iv 0) (ie_int)) (ia_nil))) (iv 1)) (ia_nil)))) (ia_nil)))))))
def rd__law_is_name (K : PySem.W.Frag) : AS :=
  sRet (aOrV (aIsi "str" (aVar 0)) (aIsi "int" (aVar 0)))
theorem ok__law_is_name (h : Hd P w K mg base T) {k : Nat} {A : ASp}
    (len : ∀ va S R RE, A va S R RE → va.length = 1) (pure : ∀ va S R RE, A va S R RE → rd__law_is_name K { nx := fun _ S' => R .non S', rt := R, ex := fun x _ S' => RE x S' } (astart N__law_is_name va) S) : CalA P w K mg base T (k + 1) "_law_is_name" A :=
  cal_of h.D__law_is_name sc__law_is_name (fun _ _ _ _ _ _ us hl => match us, hl with | [_], _ => rfl) len pure fun A outer s H E hr =>
    iss_one (is_ret (ie_or (ie_isi (by decide +kernel) (iv 0) rfl h.n_isinstance (by decide +kernel) rfl h.n_str (by decide +kernel)) (ie_one (ie_isi (by decide +kernel) (iv 0) rfl h.n_isinstance (by decide +kernel) rfl h.n_int (by decide +kernel)))))
def rd__law_free (K : PySem.W.Frag) (A__law_is_name : ASp) (A__law_free : ASp) : AS :=
  sSeq (sIf (aTest (aCall A__law_is_name (aCons (aVar 0) (aNil)))) (sRet (aIf (aTest (aIsi "str" (aVar 0))) (aLst (aCons (aVar 0) (aNil))) (aLst (aNil)))) (sNext)) (sSeq (sSet 1 (aLst (aNil))) (sSeq (sFor (iSeq (aSl (aVar 0) (oSome (aC (.int 1))) (oNone))) (tName 2) (sSet 1 (aOp addA (aVar 1) (aCall A__law_free (aCons (aVar 2) (aNil)))))) (sRet (aVar 1))))
theorem ok__law_free (h : Hd P w K mg base T) {k : Nat} {A__law_is_name : ASp} {A__law_free : ASp} {A : ASp} (c__law_is_name : CalA P w K mg base T k "_law_is_name" A__law_is_name) (c__law_free : CalA P w K mg base T k "_law_free" A__law_free)
    (len : ∀ va S R RE, A va S R RE → va.length = 1) (pure : ∀ va S R RE, A va S R RE → rd__law_free K A__law_is_name A__law_free { nx := fun _ S' => R .non S', rt := R, ex := fun x _ S' => RE x S' } (astart N__law_free va) S) : CalA P w K mg base T (k + 1) "_law_free" A :=
  cal_of h.D__law_free sc__law_free (fun _ _ _ _ _ _ us hl => match us, hl with | [_], _ => rfl) len pure fun A outer s H E hr =>
    iss_cons (is_if (it_val (ie_callA c__law_is_name hr rfl (takes_of rfl rfl rfl rfl) (ia_cons (iv 0) (ia_nil)))) (iss_one (is_ret (ie_if (it_val (ie_isi (by decide +kernel) (iv 0) rfl h.n_isinstance (by decide +kernel) rfl h.n_str (by decide +kernel))) (ie_lst (ia_cons (iv 0) (ia_nil))) (ie_lst (ia_nil))))) (iss_nil))
      (iss_cons (is_set (i := 1) sc__law_free.nd rfl (.inl rfl) (ie_lst (ia_nil)))
      (iss_cons (is_for (passes_of rfl) rfl (ii_seq (ie_sl (iv 0) (io_some (ie_int)) (io_none))) (ig_name (i := 2) sc__law_free.nd rfl (.inl rfl)) (iss_one (is_set (i := 1) sc__law_free.nd rfl (.inl rfl) (ie_op oA_add (iv 1) (ie_callA c__law_free hr rfl (takes_of rfl rfl rfl rfl) (ia_cons (iv 2) (ia_nil)))))))
      (iss_one (is_ret (iv 1)))))
def rd__law_size (K : PySem.W.Frag) (A__law_is_name : ASp) (A__law_size : ASp) : AS :=
  sRet (aIf (aTest (aCall A__law_is_name (aCons (aVar 0) (aNil)))) (aC (.int 1)) (aOp addA (aC (.int 1)) (aCB sumC (aCons (aLc (iSeq (aSl (aVar 0) (oSome (aC (.int 1))) (oNone))) (tName 1) (aYes) (aCall A__law_size (aCons (aVar 1) (aNil))) [1]) (aNil)))))
theorem ok__law_size (h : Hd P w K mg base T) {k : Nat} {A__law_is_name : ASp} {A__law_size : ASp} {A : ASp} (c__law_is_name : CalA P w K mg base T k "_law_is_name" A__law_is_name) (c__law_size : CalA P w K mg base T k "_law_size" A__law_size)
    (len : ∀ va S R RE, A va S R RE → va.length = 1) (pure : ∀ va S R RE, A va S R RE → rd__law_size K A__law_is_name A__law_size { nx := fun _ S' => R .non S', rt := R, ex := fun x _ S' => RE x S' } (astart N__law_size va) S) : CalA P w K mg base T (k + 1) "_law_size" A :=
  cal_of h.D__law_size sc__law_size (fun _ _ _ _ _ _ us hl => match us, hl with | [_], _ => rfl) len pure fun A outer s H E hr =>
    iss_one (is_ret (ie_if (it_val (ie_callA c__law_is_name hr rfl (takes_of rfl rfl rfl rfl) (ia_cons (iv 0) (ia_nil)))) (ie_int) (ie_op oA_add (ie_int) (ie_callB (cA_sum rfl) rfl h.n_sum (by decide +kernel) (ia_cons (ie_lc (own := [("one", 1)]) rfl sc__law_size.nd (ii_seq (ie_sl (iv 0) (io_some (ie_int)) (io_none))) (blkOk_by (own := [("one", 1)]) (N := N__law_size) (sc := defScope s__law_size) (by decide +kernel)) (fun _ _ _ _ _ => igv_name (i := 1) sc__law_size.nd rfl (by first | exact .inl rfl | exact .inr rfl) (by decide)) (fun _ _ _ _ _ => its_nil) (fun _ _ _ _ _ => ie_callA c__law_size hr rfl takes0 (ia_cons (iv 1) (ia_nil)))) (ia_nil))))))
def rd__law_deep (K : PySem.W.Frag) (A__law_is_name : ASp) (A__law_deep : ASp) : AS :=
  sRet (aIf (aTest (aCall A__law_is_name (aCons (aVar 0) (aNil)))) (aC (.int 1)) (aOp addA (aC (.int 1)) (aCB maxC (aCons (aLc (iSeq (aSl (aVar 0) (oSome (aC (.int 1))) (oNone))) (tName 1) (aYes) (aCall A__law_deep (aCons (aVar 1) (aNil))) [1]) (aNil)))))
theorem ok__law_deep (h : Hd P w K mg base T) {k : Nat} {A__law_is_name : ASp} {A__law_deep : ASp} {A : ASp} (c__law_is_name : CalA P w K mg base T k "_law_is_name" A__law_is_name) (c__law_deep : CalA P w K mg base T k "_law_deep" A__law_deep)
    (len : ∀ va S R RE, A va S R RE → va.length = 1) (pure : ∀ va S R RE, A va S R RE → rd__law_deep K A__law_is_name A__law_deep { nx := fun _ S' => R .non S', rt := R, ex := fun x _ S' => RE x S' } (astart N__law_deep va) S) : CalA P w K mg base T (k + 1) "_law_deep" A :=
  cal_of h.D__law_deep sc__law_deep (fun _ _ _ _ _ _ us hl => match us, hl with | [_], _ => rfl) len pure fun A outer s H E hr =>
    iss_one (is_ret (ie_if (it_val (ie_callA c__law_is_name hr rfl (takes_of rfl rfl rfl rfl) (ia_cons (iv 0) (ia_nil)))) (ie_int) (ie_op oA_add (ie_int) (ie_callB (cA_max rfl) rfl h.n_max (by decide +kernel) (ia_cons (ie_lc (own := [("one", 1)]) rfl sc__law_deep.nd (ii_seq (ie_sl (iv 0) (io_some (ie_int)) (io_none))) (blkOk_by (own := [("one", 1)]) (N := N__law_deep) (sc := defScope s__law_deep) (by decide +kernel)) (fun _ _ _ _ _ => igv_name (i := 1) sc__law_deep.nd rfl (by first | exact .inl rfl | exact .inr rfl) (by decide)) (fun _ _ _ _ _ => its_nil) (fun _ _ _ _ _ => ie_callA c__law_deep hr rfl takes0 (ia_cons (iv 1) (ia_nil)))) (ia_nil))))))
def rd__law_led (K : PySem.W.Frag) (A__law_is_name : ASp) (A__law_led : ASp) : AS :=
  sSeq (sIf (aTest (aCall A__law_is_name (aCons (aVar 0) (aNil)))) (sRet (aIf (aTest (aIsi "str" (aVar 0))) (aVar 0) (aOp ixA (aVar 1) (aOp subA (aOp subA (aVar 2) (aC (.int 1))) (aVar 0))))) (sNext)) (sSeq (sIf (aTest (aOp eqA (aOp ixA (aVar 0) (aC (.int 0))) (aC (.str "of")))) (sRet (aTup (aCons (aC (.str "of")) (aCons (aCall A__law_led (aCons (aOp ixA (aVar 0) (aC (.int 1))) (aCons (aVar 1) (aCons (aVar 2) (aNil))))) (aCons (aCall A__law_led (aCons (aOp ixA (aVar 0) (aC (.int 2))) (aCons (aVar 1) (aCons (aVar 2) (aNil))))) (aNil)))))) (sNext)) (sRet (aTup (aCons (aC (.str "with")) (aCons (aOp ixA (aVar 1) (aVar 2)) (aCons (aCall A__law_led (aCons (aOp ixA (aVar 0) (aC (.int 1))) (aCons (aVar 1) (aCons (aOp addA (aVar 2) (aC (.int 1))) (aNil))))) (aNil)))))))
theorem ok__law_led (h : Hd P w K mg base T) {k : Nat} {A__law_is_name : ASp} {A__law_led : ASp} {A : ASp} (c__law_is_name : CalA P w K mg base T k "_law_is_name" A__law_is_name) (c__law_led : CalA P w K mg base T k "_law_led" A__law_led)
    (len : ∀ va S R RE, A va S R RE → va.length = 3) (pure : ∀ va S R RE, A va S R RE → rd__law_led K A__law_is_name A__law_led { nx := fun _ S' => R .non S', rt := R, ex := fun x _ S' => RE x S' } (astart N__law_led va) S) : CalA P w K mg base T (k + 1) "_law_led" A :=
  cal_of h.D__law_led sc__law_led (fun _ _ _ _ _ _ us hl => match us, hl with | [_, _, _], _ => rfl) len pure fun A outer s H E hr =>
    iss_cons (is_if (it_val (ie_callA c__law_is_name hr rfl (takes_of rfl rfl rfl rfl) (ia_cons (iv 0) (ia_nil)))) (iss_one (is_ret (ie_if (it_val (ie_isi (by decide +kernel) (iv 0) rfl h.n_isinstance (by decide +kernel) rfl h.n_str (by decide +kernel))) (iv 0) (ie_ix (iv 1) (ie_op oA_sub (ie_op oA_sub (iv 2) (ie_int)) (iv 0)))))) (iss_nil))
      (iss_cons (is_if (it_cmp (oA_eq hr.units) (ie_ix (iv 0) (ie_int)) (ie_str) (nomark _)) (iss_one (is_ret (ie_tup (ia_cons (ie_str) (ia_cons (ie_callA c__law_led hr rfl (takes_of rfl rfl rfl rfl) (ia_cons (ie_ix (iv 0) (ie_int)) (ia_cons (iv 1) (ia_cons (iv 2) (ia_nil))))) (ia_cons (ie_callA c__law_led hr rfl (takes_of rfl rfl rfl rfl) (ia_cons (ie_ix (iv 0) (ie_int)) (ia_cons (iv 1) (ia_cons (iv 2) (ia_nil))))) (ia_nil))))))) (iss_nil))
      (iss_one (is_ret (ie_tup (ia_cons (ie_str) (ia_cons (ie_ix (iv 1) (iv 2)) (ia_cons (ie_callA c__law_led hr rfl (takes_of rfl rfl rfl rfl) (ia_cons (ie_ix (iv 0) (ie_int)) (ia_cons (iv 1) (ia_cons (ie_op oA_add (iv 2) (ie_int)) (ia_nil))))) (ia_nil))))))))
def rd__law_plain (K : PySem.W.Frag) (A__law_free : ASp) (A__law_led : ASp) : AS :=
  sSeq (sAsg (aTup (aCons (aC (.str "abcdefghijklmnopqrstuvwxyz")) (aCons (aCall A__law_free (aCons (aVar 0) (aNil))) (aNil)))) (tTupA 2 (tConsA (tName 1) (tConsA (tName 2) (tNilA))))) (sSeq (sSet 3 (aLc (iStrA (aVar 1)) (tName 5) (aTest (aOp notinA (aVar 5) (aVar 2))) (aVar 5) [5])) (sSeq (sFor (iStrA (aC (.str "abcd"))) (tName 4) (sDrop (aBM "list" extendM (aVar 3) (aCons (aLc (iStrA (aVar 1)) (tName 5) (aTest (aOp notinA (aOp addA (aVar 4) (aVar 5)) (aVar 2))) (aOp addA (aVar 4) (aVar 5)) [5]) (aNil))))) (sRet (aCall A__law_led (aCons (aVar 0) (aCons (aVar 3) (aCons (aC (.int 0)) (aNil))))))))
theorem ok__law_plain (h : Hd P w K mg base T) {k : Nat} {A__law_free : ASp} {A__law_led : ASp} {A : ASp} (c__law_free : CalA P w K mg base T k "_law_free" A__law_free) (c__law_led : CalA P w K mg base T k "_law_led" A__law_led)
    (len : ∀ va S R RE, A va S R RE → va.length = 1) (pure : ∀ va S R RE, A va S R RE → rd__law_plain K A__law_free A__law_led { nx := fun _ S' => R .non S', rt := R, ex := fun x _ S' => RE x S' } (astart N__law_plain va) S) : CalA P w K mg base T (k + 1) "_law_plain" A :=
  cal_of h.D__law_plain sc__law_plain (fun _ _ _ _ _ _ us hl => match us, hl with | [_], _ => rfl) len pure fun A outer s H E hr =>
    iss_cons (is_asg (ie_tup (ia_cons (ie_str) (ia_cons (ie_callA c__law_free hr rfl (takes_of rfl rfl rfl rfl) (ia_cons (iv 0) (ia_nil))) (ia_nil)))) (ig_tup rfl (igs_cons (ig_name (i := 1) sc__law_plain.nd rfl (.inl rfl)) (igs_cons (ig_name (i := 2) sc__law_plain.nd rfl (.inr rfl)) (igs_nil)))))
      (iss_cons (is_setLc (i := 3) (own := [("sign", 5)]) rfl sc__law_plain.nd rfl rfl (sw_true rfl rfl rfl (by decide +kernel)) (ii_str (iv 1)) (blkOk_by (own := [("sign", 5)]) (N := N__law_plain) (sc := defScope s__law_plain) (by decide +kernel)) (fun _ _ _ _ _ => igv_name (i := 5) sc__law_plain.nd rfl (by first | exact .inl rfl | exact .inr rfl) (by decide)) (fun _ _ _ _ _ => its_one (it_cmp (oA_notin (hu_of hr.r)) (iv 5) (iv 2) (by with_unfolding_all rfl))) (fun _ _ _ _ _ => iv 5))
      (iss_cons (is_for (passes_of rfl) rfl (ii_str (ie_str)) (ig_name (i := 4) sc__law_plain.nd rfl (.inr rfl)) (iss_one (is_expr (ie_bm PySem.F.plainAttrs_list PySem.F.slot_list_extend PySem.F.type_list_extend mA_extend (iv 3) (ia_cons (ie_lc (own := [("sign", 5)]) rfl sc__law_plain.nd (ii_str (iv 1)) (blkOk_by (own := [("sign", 5)]) (N := N__law_plain) (sc := defScope s__law_plain) (by decide +kernel)) (fun _ _ _ _ _ => igv_name (i := 5) sc__law_plain.nd rfl (by first | exact .inl rfl | exact .inr rfl) (by decide)) (fun _ _ _ _ _ => its_one (it_cmp (oA_notin (hu_of hr.r)) (ie_op oA_add (iv 4) (iv 5)) (iv 2) (by with_unfolding_all rfl))) (fun _ _ _ _ _ => ie_op oA_add (iv 4) (iv 5))) (ia_nil))))))
      (iss_one (is_ret (ie_callA c__law_led hr rfl (takes_of rfl rfl rfl rfl) (ia_cons (iv 0) (ia_cons (iv 3) (ia_cons (ie_int) (ia_nil)))))))))
def rd__law_lift (K : PySem.W.Frag) (A__law_is_name : ASp) (A__law_lift : ASp) : AS :=
  sSeq (sIf (aTest (aCall A__law_is_name (aCons (aVar 0) (aNil)))) (sRet (aIf (aAnd (aTest (aIsi "int" (aVar 0))) (aTest (aOp geA (aVar 0) (aVar 2)))) (aOp addA (aVar 0) (aVar 1)) (aVar 0))) (sNext)) (sSeq (sIf (aTest (aOp eqA (aOp ixA (aVar 0) (aC (.int 0))) (aC (.str "of")))) (sRet (aOp addA (aTup (aCons (aC (.str "of")) (aNil))) (aCB tupC (aCons (aLc (iSeq (aSl (aVar 0) (oSome (aC (.int 1))) (oNone))) (tName 3) (aYes) (aCall A__law_lift (aCons (aVar 3) (aCons (aVar 1) (aCons (aVar 2) (aNil))))) [3]) (aNil))))) (sNext)) (sRet (aTup (aCons (aC (.str "with")) (aCons (aCall A__law_lift (aCons (aOp ixA (aVar 0) (aC (.int 1))) (aCons (aVar 1) (aCons (aOp addA (aVar 2) (aC (.int 1))) (aNil))))) (aNil))))))
theorem ok__law_lift (h : Hd P w K mg base T) {k : Nat} {A__law_is_name : ASp} {A__law_lift : ASp} {A : ASp} (c__law_is_name : CalA P w K mg base T k "_law_is_name" A__law_is_name) (c__law_lift : CalA P w K mg base T k "_law_lift" A__law_lift)
    (len : ∀ va S R RE, A va S R RE → va.length = 3) (pure : ∀ va S R RE, A va S R RE → rd__law_lift K A__law_is_name A__law_lift { nx := fun _ S' => R .non S', rt := R, ex := fun x _ S' => RE x S' } (astart N__law_lift va) S) : CalA P w K mg base T (k + 1) "_law_lift" A :=
  cal_of h.D__law_lift sc__law_lift (fun _ _ _ _ _ _ us hl => match us, hl with | [_, _, _], _ => rfl) len pure fun A outer s H E hr =>
    iss_cons (is_if (it_val (ie_callA c__law_is_name hr rfl (takes_of rfl rfl rfl rfl) (ia_cons (iv 0) (ia_nil)))) (iss_one (is_ret (ie_if (it_w (iw_and (it_val (ie_isi (by decide +kernel) (iv 0) rfl h.n_isinstance (by decide +kernel) rfl h.n_int (by decide +kernel))) (iw_and1 (it_cmp oA_ge (iv 0) (iv 2) (nomark _))))) (ie_op oA_add (iv 0) (iv 1)) (iv 0)))) (iss_nil))
      (iss_cons (is_if (it_cmp (oA_eq hr.units) (ie_ix (iv 0) (ie_int)) (ie_str) (nomark _)) (iss_one (is_ret (ie_op oA_add (ie_tup (ia_cons (ie_str) (ia_nil))) (ie_callTy cA_tuple rfl h.n_tuple (by decide +kernel) (ia_cons (ie_lc (own := [("one", 3)]) rfl sc__law_lift.nd (ii_seq (ie_sl (iv 0) (io_some (ie_int)) (io_none))) (blkOk_by (own := [("one", 3)]) (N := N__law_lift) (sc := defScope s__law_lift) (by decide +kernel)) (fun _ _ _ _ _ => igv_name (i := 3) sc__law_lift.nd rfl (by first | exact .inl rfl | exact .inr rfl) (by decide)) (fun _ _ _ _ _ => its_nil) (fun _ _ _ _ _ => ie_callA c__law_lift hr rfl takes0 (ia_cons (iv 3) (ia_cons (iv 1) (ia_cons (iv 2) (ia_nil)))))) (ia_nil)))))) (iss_nil))
      (iss_one (is_ret (ie_tup (ia_cons (ie_str) (ia_cons (ie_callA c__law_lift hr rfl (takes_of rfl rfl rfl rfl) (ia_cons (ie_ix (iv 0) (ie_int)) (ia_cons (iv 1) (ia_cons (ie_op oA_add (iv 2) (ie_int)) (ia_nil))))) (ia_nil)))))))
def rd__law_put (K : PySem.W.Frag) (A__law_lift : ASp) (A__law_put : ASp) : AS :=
  sSeq (sIf (aTest (aIsi "str" (aVar 0))) (sRet (aVar 0)) (sNext)) (sSeq (sIf (aTest (aIsi "int" (aVar 0))) (sRet (aIf (aTest (aOp eqA (aVar 0) (aVar 2))) (aCall A__law_lift (aCons (aVar 1) (aCons (aVar 2) (aCons (aC (.int 0)) (aNil))))) (aIf (aTest (aOp gtA (aVar 0) (aVar 2))) (aOp subA (aVar 0) (aC (.int 1))) (aVar 0)))) (sNext)) (sSeq (sIf (aTest (aOp eqA (aOp ixA (aVar 0) (aC (.int 0))) (aC (.str "of")))) (sRet (aOp addA (aTup (aCons (aC (.str "of")) (aNil))) (aCB tupC (aCons (aLc (iSeq (aSl (aVar 0) (oSome (aC (.int 1))) (oNone))) (tName 3) (aYes) (aCall A__law_put (aCons (aVar 3) (aCons (aVar 1) (aCons (aVar 2) (aNil))))) [3]) (aNil))))) (sNext)) (sRet (aTup (aCons (aC (.str "with")) (aCons (aCall A__law_put (aCons (aOp ixA (aVar 0) (aC (.int 1))) (aCons (aVar 1) (aCons (aOp addA (aVar 2) (aC (.int 1))) (aNil))))) (aNil)))))))
theorem ok__law_put (h : Hd P w K mg base T) {k : Nat} {A__law_lift : ASp} {A__law_put : ASp} {A : ASp} (c__law_lift : CalA P w K mg base T k "_law_lift" A__law_lift) (c__law_put : CalA P w K mg base T k "_law_put" A__law_put)
    (len : ∀ va S R RE, A va S R RE → va.length = 3) (pure : ∀ va S R RE, A va S R RE → rd__law_put K A__law_lift A__law_put { nx := fun _ S' => R .non S', rt := R, ex := fun x _ S' => RE x S' } (astart N__law_put va) S) : CalA P w K mg base T (k + 1) "_law_put" A :=
  cal_of h.D__law_put sc__law_put (fun _ _ _ _ _ _ us hl => match us, hl with | [_, _, _], _ => rfl) len pure fun A outer s H E hr =>
    iss_cons (is_if (it_val (ie_isi (by decide +kernel) (iv 0) rfl h.n_isinstance (by decide +kernel) rfl h.n_str (by decide +kernel))) (iss_one (is_ret (iv 0))) (iss_nil))
      (iss_cons (is_if (it_val (ie_isi (by decide +kernel) (iv 0) rfl h.n_isinstance (by decide +kernel) rfl h.n_int (by decide +kernel))) (iss_one (is_ret (ie_if (it_cmp (oA_eq hr.units) (iv 0) (iv 2) (nomark _)) (ie_callA c__law_lift hr rfl (takes_of rfl rfl rfl rfl) (ia_cons (iv 1) (ia_cons (iv 2) (ia_cons (ie_int) (ia_nil))))) (ie_if (it_cmp oA_gt (iv 0) (iv 2) (nomark _)) (ie_op oA_sub (iv 0) (ie_int)) (iv 0))))) (iss_nil))
      (iss_cons (is_if (it_cmp (oA_eq hr.units) (ie_ix (iv 0) (ie_int)) (ie_str) (nomark _)) (iss_one (is_ret (ie_op oA_add (ie_tup (ia_cons (ie_str) (ia_nil))) (ie_callTy cA_tuple rfl h.n_tuple (by decide +kernel) (ia_cons (ie_lc (own := [("one", 3)]) rfl sc__law_put.nd (ii_seq (ie_sl (iv 0) (io_some (ie_int)) (io_none))) (blkOk_by (own := [("one", 3)]) (N := N__law_put) (sc := defScope s__law_put) (by decide +kernel)) (fun _ _ _ _ _ => igv_name (i := 3) sc__law_put.nd rfl (by first | exact .inl rfl | exact .inr rfl) (by decide)) (fun _ _ _ _ _ => its_nil) (fun _ _ _ _ _ => ie_callA c__law_put hr rfl takes0 (ia_cons (iv 3) (ia_cons (iv 1) (ia_cons (iv 2) (ia_nil)))))) (ia_nil)))))) (iss_nil))
      (iss_one (is_ret (ie_tup (ia_cons (ie_str) (ia_cons (ie_callA c__law_put hr rfl (takes_of rfl rfl rfl rfl) (ia_cons (ie_ix (iv 0) (ie_int)) (ia_cons (iv 1) (ia_cons (ie_op oA_add (iv 2) (ie_int)) (ia_nil))))) (ia_nil))))))))
def rd__law_is_step (K : PySem.W.Frag) (A__law_is_name : ASp) : AS :=
  sSeq (sIf (aOr (aTest (aCall A__law_is_name (aCons (aVar 0) (aNil)))) (aTest (aOp neA (aOp ixA (aVar 0) (aC (.int 0))) (aC (.str "of"))))) (sRet (aC (.bl false))) (sNext)) (sRet (aAndV (aNotV (aCall A__law_is_name (aCons (aOp ixA (aVar 0) (aC (.int 1))) (aNil)))) (aOp eqA (aOp ixA (aOp ixA (aVar 0) (aC (.int 1))) (aC (.int 0))) (aC (.str "with")))))
theorem ok__law_is_step (h : Hd P w K mg base T) {k : Nat} {A__law_is_name : ASp} {A : ASp} (c__law_is_name : CalA P w K mg base T k "_law_is_name" A__law_is_name)
    (len : ∀ va S R RE, A va S R RE → va.length = 1) (pure : ∀ va S R RE, A va S R RE → rd__law_is_step K A__law_is_name { nx := fun _ S' => R .non S', rt := R, ex := fun x _ S' => RE x S' } (astart N__law_is_step va) S) : CalA P w K mg base T (k + 1) "_law_is_step" A :=
  cal_of h.D__law_is_step sc__law_is_step (fun _ _ _ _ _ _ us hl => match us, hl with | [_], _ => rfl) len pure fun A outer s H E hr =>
    iss_cons (is_if (it_w (iw_or (it_val (ie_callA c__law_is_name hr rfl (takes_of rfl rfl rfl rfl) (ia_cons (iv 0) (ia_nil)))) (iw_or1 (it_cmp (oA_ne hr.units) (ie_ix (iv 0) (ie_int)) (ie_str) (nomark _))))) (iss_one (is_ret (ie_bl))) (iss_nil))
      (iss_one (is_ret (ie_and (ie_not (ie_callA c__law_is_name hr rfl (takes_of rfl rfl rfl rfl) (ia_cons (ie_ix (iv 0) (ie_int)) (ia_nil)))) (ie_one (ie_cmp (oA_eq hr.units) (ie_ix (ie_ix (iv 0) (ie_int)) (ie_int)) (ie_str) (nomark _))))))
def rd__law_step (K : PySem.W.Frag) (A__law_put : ASp) (A__law_step : ASp) : AS :=
  sSeq (sIf (aTest (aOp eqA (aVar 1) (aTup (aNil)))) (sRet (aCall A__law_put (aCons (aOp ixA (aOp ixA (aVar 0) (aC (.int 1))) (aC (.int 1))) (aCons (aOp ixA (aVar 0) (aC (.int 2))) (aCons (aC (.int 0)) (aNil)))))) (sNext)) (sSeq (sSet 2 (aOp addA (aOp ixA (aVar 1) (aC (.int 0))) (aC (.int 1)))) (sRet (aOp addA (aOp addA (aSl (aVar 0) (oNone) (oSome (aVar 2))) (aTup (aCons (aCall A__law_step (aCons (aOp ixA (aVar 0) (aVar 2)) (aCons (aSl (aVar 1) (oSome (aC (.int 1))) (oNone)) (aNil)))) (aNil)))) (aSl (aVar 0) (oSome (aOp addA (aVar 2) (aC (.int 1)))) (oNone)))))
theorem ok__law_step (h : Hd P w K mg base T) {k : Nat} {A__law_put : ASp} {A__law_step : ASp} {A : ASp} (c__law_put : CalA P w K mg base T k "_law_put" A__law_put) (c__law_step : CalA P w K mg base T k "_law_step" A__law_step)
    (len : ∀ va S R RE, A va S R RE → va.length = 2) (pure : ∀ va S R RE, A va S R RE → rd__law_step K A__law_put A__law_step { nx := fun _ S' => R .non S', rt := R, ex := fun x _ S' => RE x S' } (astart N__law_step va) S) : CalA P w K mg base T (k + 1) "_law_step" A :=
  cal_of h.D__law_step sc__law_step (fun _ _ _ _ _ _ us hl => match us, hl with | [_, _], _ => rfl) len pure fun A outer s H E hr =>
    iss_cons (is_if (it_cmp (oA_eq hr.units) (iv 1) (ie_tup (ia_nil)) (nomark _)) (iss_one (is_ret (ie_callA c__law_put hr rfl (takes_of rfl rfl rfl rfl) (ia_cons (ie_ix (ie_ix (iv 0) (ie_int)) (ie_int)) (ia_cons (ie_ix (iv 0) (ie_int)) (ia_cons (ie_int) (ia_nil))))))) (iss_nil))
      (iss_cons (is_set (i := 2) sc__law_step.nd rfl (.inl rfl) (ie_op oA_add (ie_ix (iv 1) (ie_int)) (ie_int)))
      (iss_one (is_ret (ie_op oA_add (ie_op oA_add (ie_sl (iv 0) (io_none) (io_some (iv 2))) (ie_tup (ia_cons (ie_callA c__law_step hr rfl (takes_of rfl rfl rfl rfl) (ia_cons (ie_ix (iv 0) (iv 2)) (ia_cons (ie_sl (iv 1) (io_some (ie_int)) (io_none)) (ia_nil)))) (ia_nil)))) (ie_sl (iv 0) (io_some (ie_op oA_add (iv 2) (ie_int))) (io_none))))))
def rd__law_head (K : PySem.W.Frag) (A__law_is_name : ASp) (A__law_is_step : ASp) : AS :=
  sSeq (sPar 1 2 (aCons (aTup (aNil)) (aCons (aVar 0) (aNil)))) (sSeq (sWhile (aNot (aTest (aCall A__law_is_name (aCons (aVar 2) (aNil))))) (sSeq (sIf (aTest (aCall A__law_is_step (aCons (aVar 2) (aNil)))) (sRet (aVar 1)) (sNext)) (sPar 1 2 (aCons (aOp addA (aVar 1) (aTup (aCons (aC (.int 0)) (aNil)))) (aCons (aOp ixA (aVar 2) (aC (.int 1))) (aNil)))))) (sRet (aC .non)))
theorem ok__law_head (h : Hd P w K mg base T) {k : Nat} {A__law_is_name : ASp} {A__law_is_step : ASp} {A : ASp} (c__law_is_name : CalA P w K mg base T k "_law_is_name" A__law_is_name) (c__law_is_step : CalA P w K mg base T k "_law_is_step" A__law_is_step)
    (len : ∀ va S R RE, A va S R RE → va.length = 1) (pure : ∀ va S R RE, A va S R RE → rd__law_head K A__law_is_name A__law_is_step { nx := fun _ S' => R .non S', rt := R, ex := fun x _ S' => RE x S' } (astart N__law_head va) S) : CalA P w K mg base T (k + 1) "_law_head" A :=
  cal_of h.D__law_head sc__law_head (fun _ _ _ _ _ _ us hl => match us, hl with | [_], _ => rfl) len pure fun A outer s H E hr =>
    iss_cons (is_par (i := 1) (j := 2) rfl sc__law_head.nd rfl rfl (by decide) rfl rfl (ia_cons (ie_tup (ia_nil)) (ia_cons (iv 0) (ia_nil))))
      (iss_cons (is_while (passes_of rfl) (it_not (it_val (ie_callA c__law_is_name hr rfl (takes_of rfl rfl rfl rfl) (ia_cons (iv 2) (ia_nil))))) (iss_cons (is_if (it_val (ie_callA c__law_is_step hr rfl (takes_of rfl rfl rfl rfl) (ia_cons (iv 2) (ia_nil)))) (iss_one (is_ret (iv 1))) (iss_nil))
      (iss_one (is_par (i := 1) (j := 2) rfl sc__law_head.nd rfl rfl (by decide) rfl rfl (ia_cons (ie_op oA_add (iv 1) (ie_tup (ia_cons (ie_int) (ia_nil)))) (ia_cons (ie_ix (iv 2) (ie_int)) (ia_nil)))))))
      (iss_one (is_ret (ie_non))))
def rd__law_told (K : PySem.W.Frag) (A__law_head : ASp) (A__law_step : ASp) (A__law_size : ASp) (A__law_deep : ASp) : AS :=
  sSeq (sFor (iR1 (aVar 1)) (tName 2) (sSeq (sSet 3 (aCall A__law_head (aCons (aVar 0) (aNil)))) (sSeq (sIf (aTest (aOp isA (aVar 3) (aC .non))) (sRet (aTup (aCons (aC (.str "head")) (aCons (aVar 0) (aCons (aVar 2) (aNil)))))) (sNext)) (sSeq (sSet 0 (aCall A__law_step (aCons (aVar 0) (aCons (aVar 3) (aNil))))) (sIf (aOr (aTest (aOp gtA (aCall A__law_size (aCons (aVar 0) (aNil))) (aC (.int 300)))) (aTest (aOp gtA (aCall A__law_deep (aCons (aVar 0) (aNil))) (aC (.int 100))))) (sRet (aC .non)) (sNext)))))) (sRet (aC .non))
theorem ok__law_told (h : Hd P w K mg base T) {k : Nat} {A__law_head : ASp} {A__law_step : ASp} {A__law_size : ASp} {A__law_deep : ASp} {A : ASp} (c__law_head : CalA P w K mg base T k "_law_head" A__law_head) (c__law_step : CalA P w K mg base T k "_law_step" A__law_step) (c__law_size : CalA P w K mg base T k "_law_size" A__law_size) (c__law_deep : CalA P w K mg base T k "_law_deep" A__law_deep)
    (len : ∀ va S R RE, A va S R RE → va.length = 2) (pure : ∀ va S R RE, A va S R RE → rd__law_told K A__law_head A__law_step A__law_size A__law_deep { nx := fun _ S' => R .non S', rt := R, ex := fun x _ S' => RE x S' } (astart N__law_told va) S) : CalA P w K mg base T (k + 1) "_law_told" A :=
  cal_of h.D__law_told sc__law_told (fun _ _ _ _ _ _ us hl => match us, hl with | [_, _], _ => rfl) len pure fun A outer s H E hr =>
    iss_cons (is_for (passes_of rfl) rfl (ii_r1 rfl h.n_range (iv 1)) (ig_name (i := 2) sc__law_told.nd rfl (.inl rfl)) (iss_cons (is_set (i := 3) sc__law_told.nd rfl (.inl rfl) (ie_callA c__law_head hr rfl (takes_of rfl rfl rfl rfl) (ia_cons (iv 0) (ia_nil))))
      (iss_cons (is_if (it_cmp oA_is (iv 3) (ie_non) (nomark _)) (iss_one (is_ret (ie_tup (ia_cons (ie_str) (ia_cons (iv 0) (ia_cons (iv 2) (ia_nil))))))) (iss_nil))
      (iss_cons (is_set (i := 0) sc__law_told.nd rfl (.inl rfl) (ie_callA c__law_step hr rfl (takes_of rfl rfl rfl rfl) (ia_cons (iv 0) (ia_cons (iv 3) (ia_nil)))))
      (iss_one (is_if (it_w (iw_or (it_cmp oA_gt (ie_callA c__law_size hr rfl (takes_of rfl rfl rfl rfl) (ia_cons (iv 0) (ia_nil))) (ie_int) (nomark _)) (iw_or1 (it_cmp oA_gt (ie_callA c__law_deep hr rfl (takes_of rfl rfl rfl rfl) (ia_cons (iv 0) (ia_nil))) (ie_int) (nomark _))))) (iss_one (is_ret (ie_non))) (iss_nil)))))))
      (iss_one (is_ret (ie_non)))
def rd__law_term_right (K : PySem.W.Frag) (A__law_told : ASp) (A__law_plain : ASp) (A_has_head : ASp) (A_head_told : ASp) (A__law_is : ASp) (A__law_size : ASp) (A__law_deep : ASp) : AS :=
  sSeq (sSet 2 (aCall A__law_told (aCons (aVar 1) (aCons (aC (.int 40)) (aNil))))) (sSeq (sIf (aTest (aOp isA (aVar 2) (aC .non))) (sRet (aC (.bl true))) (sNext)) (sSeq (sSet 3 (aTup (aCons (aC (.str "head")) (aCons (aCall A__law_plain (aCons (aOp ixA (aVar 2) (aC (.int 1))) (aNil))) (aCons (aOp ixA (aVar 2) (aC (.int 2))) (aNil)))))) (sSeq (sIf (aNot (aTest (aCall A__law_is (aCons (aLst (aCons (aCall A_head_told (aCons (aVar 0) (aNil))) (aCons (aCall A_has_head (aCons (aVar 0) (aNil))) (aNil)))) (aCons (aLst (aCons (aVar 3) (aCons (aC (.bl true)) (aNil)))) (aNil)))))) (sRet (aC (.bl false))) (sNext)) (sSeq (sIf (aTest (aOp neW (aCall A_head_told (aCons (aCall A__law_plain (aCons (aVar 1) (aNil))) (aNil))) (aVar 3))) (sRet (aC (.bl false))) (sNext)) (sSeq (sIf (aOr (aTest (aOp gtA (aCall A__law_size (aCons (aOp ixA (aVar 2) (aC (.int 1))) (aNil))) (aC (.int 55)))) (aTest (aOp gtA (aCall A__law_deep (aCons (aOp ixA (aVar 2) (aC (.int 1))) (aNil))) (aC (.int 15))))) (sRet (aC (.bl true))) (sNext)) (sSeq (sSet 4 (aCall A_head_told (aCons (aTup (aCons (aC (.str "with")) (aCons (aC (.str "q")) (aCons (aOp ixA (aVar 3) (aC (.int 1))) (aNil))))) (aNil)))) (sRet (aAndV (aOp eqA (aCall A_head_told (aCons (aOp ixA (aVar 3) (aC (.int 1))) (aNil))) (aTup (aCons (aC (.str "head")) (aCons (aOp ixA (aVar 3) (aC (.int 1))) (aCons (aC (.int 0)) (aNil)))))) (aAndV (aOp eqA (aOp ixA (aVar 4) (aC (.int 0))) (aC (.str "head"))) (aOp eqA (aOp ixA (aVar 4) (aC (.int 2))) (aC (.int 0))))))))))))
theorem ok__law_term_right (h : Hd P w K mg base T) {k : Nat} {A__law_told : ASp} {A__law_plain : ASp} {A_has_head : ASp} {A_head_told : ASp} {A__law_is : ASp} {A__law_size : ASp} {A__law_deep : ASp} {A : ASp} (c__law_told : CalA P w K mg base T k "_law_told" A__law_told) (c__law_plain : CalA P w K mg base T k "_law_plain" A__law_plain) (c_has_head : CalA P w K mg base T k "has_head" A_has_head) (c_head_told : CalA P w K mg base T k "head_told" A_head_told) (c__law_is : CalA P w K mg base T k "_law_is" A__law_is) (c__law_size : CalA P w K mg base T k "_law_size" A__law_size) (c__law_deep : CalA P w K mg base T k "_law_deep" A__law_deep)
    (len : ∀ va S R RE, A va S R RE → va.length = 2) (pure : ∀ va S R RE, A va S R RE → rd__law_term_right K A__law_told A__law_plain A_has_head A_head_told A__law_is A__law_size A__law_deep { nx := fun _ S' => R .non S', rt := R, ex := fun x _ S' => RE x S' } (astart N__law_term_right va) S) : CalA P w K mg base T (k + 1) "_law_term_right" A :=
  cal_of h.D__law_term_right sc__law_term_right (fun _ _ _ _ _ _ us hl => match us, hl with | [_, _], _ => rfl) len pure fun A outer s H E hr =>
    iss_cons (is_set (i := 2) sc__law_term_right.nd rfl (.inl rfl) (ie_callA c__law_told hr rfl (takes_of rfl rfl rfl rfl) (ia_cons (iv 1) (ia_cons (ie_int) (ia_nil)))))
      (iss_cons (is_if (it_cmp oA_is (iv 2) (ie_non) (nomark _)) (iss_one (is_ret (ie_bl))) (iss_nil))
      (iss_cons (is_set (i := 3) sc__law_term_right.nd rfl (.inl rfl) (ie_tup (ia_cons (ie_str) (ia_cons (ie_callA c__law_plain hr rfl (takes_of rfl rfl rfl rfl) (ia_cons (ie_ix (iv 2) (ie_int)) (ia_nil))) (ia_cons (ie_ix (iv 2) (ie_int)) (ia_nil))))))
      (iss_cons (is_if (it_not (it_val (ie_callA c__law_is hr rfl (takes_of rfl rfl rfl rfl) (ia_cons (ie_lst (ia_cons (ie_callA c_head_told hr rfl (takes_of rfl rfl rfl rfl) (ia_cons (iv 0) (ia_nil))) (ia_cons (ie_callA c_has_head hr rfl (takes_of rfl rfl rfl rfl) (ia_cons (iv 0) (ia_nil))) (ia_nil)))) (ia_cons (ie_lst (ia_cons (iv 3) (ia_cons (ie_bl) (ia_nil)))) (ia_nil)))))) (iss_one (is_ret (ie_bl))) (iss_nil))
      (iss_cons (is_if (it_cmp (oA_neW hr.wide) (ie_callA c_head_told hr rfl (takes_of rfl rfl rfl rfl) (ia_cons (ie_callA c__law_plain hr rfl (takes_of rfl rfl rfl rfl) (ia_cons (iv 1) (ia_nil))) (ia_nil))) (iv 3) (nomark _)) (iss_one (is_ret (ie_bl))) (iss_nil))
      (iss_cons (is_if (it_w (iw_or (it_cmp oA_gt (ie_callA c__law_size hr rfl (takes_of rfl rfl rfl rfl) (ia_cons (ie_ix (iv 2) (ie_int)) (ia_nil))) (ie_int) (nomark _)) (iw_or1 (it_cmp oA_gt (ie_callA c__law_deep hr rfl (takes_of rfl rfl rfl rfl) (ia_cons (ie_ix (iv 2) (ie_int)) (ia_nil))) (ie_int) (nomark _))))) (iss_one (is_ret (ie_bl))) (iss_nil))
      (iss_cons (is_set (i := 4) sc__law_term_right.nd rfl (.inl rfl) (ie_callA c_head_told hr rfl (takes_of rfl rfl rfl rfl) (ia_cons (ie_tup (ia_cons (ie_str) (ia_cons (ie_str) (ia_cons (ie_ix (iv 3) (ie_int)) (ia_nil))))) (ia_nil))))
      (iss_one (is_ret (ie_and (ie_cmp (oA_eq hr.units) (ie_callA c_head_told hr rfl (takes_of rfl rfl rfl rfl) (ia_cons (ie_ix (iv 3) (ie_int)) (ia_nil))) (ie_tup (ia_cons (ie_str) (ia_cons (ie_ix (iv 3) (ie_int)) (ia_cons (ie_int) (ia_nil))))) (nomark _)) (ie_and (ie_cmp (oA_eq hr.units) (ie_ix (iv 4) (ie_int)) (ie_str) (nomark _)) (ie_one (ie_cmp (oA_eq hr.units) (ie_ix (iv 4) (ie_int)) (ie_int) (nomark _)))))))))))))
def rd__law_case_right (K : PySem.W.Frag) (A__law_term : ASp) (A__law_indexed : ASp) (A__law_size : ASp) (A__law_term_right : ASp) (A__law_draw : ASp) (A__law_told : ASp) (A__law_plain : ASp) (A_head_after : ASp) (A__law_is : ASp) : AS :=
  sSeq (sSet 1 (aCall A__law_term (aCons (aVar 0) (aCons (aC (.int 4)) (aCons (aLst (aNil)) (aNil)))))) (sSeq (sSet 2 (aCall A__law_indexed (aCons (aVar 1) (aCons (aLst (aNil)) (aNil))))) (sSeq (sIf (aTest (aOp gtA (aCall A__law_size (aCons (aVar 2) (aNil))) (aC (.int 40)))) (sRet (aC (.bl true))) (sNext)) (sSeq (sIf (aNot (aTest (aCall A__law_term_right (aCons (aVar 1) (aCons (aVar 2) (aNil)))))) (sRet (aC (.bl false))) (sNext)) (sSeq (sSet 3 (aLc (iR1 (aCall A__law_draw (aCons (aVar 0) (aCons (aC (.int 3)) (aNil))))) (tName 7) (aYes) (aCall A__law_term (aCons (aVar 0) (aCons (aC (.int 2)) (aCons (aLst (aNil)) (aNil))))) [7])) (sSeq (sSet 4 (aVar 1)) (sSeq (sFor (iSeq (aVar 3)) (tName 5) (sSet 4 (aTup (aCons (aC (.str "of")) (aCons (aVar 4) (aCons (aVar 5) (aNil))))))) (sSeq (sSet 6 (aCall A__law_told (aCons (aCall A__law_indexed (aCons (aVar 4) (aCons (aLst (aNil)) (aNil)))) (aCons (aC (.int 40)) (aNil))))) (sSeq (sIf (aOr (aTest (aOp isA (aVar 6) (aC .non))) (aTest (aOp gtA (aCall A__law_size (aCons (aCall A__law_indexed (aCons (aVar 4) (aCons (aLst (aNil)) (aNil)))) (aNil))) (aC (.int 55))))) (sRet (aC (.bl true))) (sNext)) (sRet (aCall A__law_is (aCons (aCall A_head_after (aCons (aVar 1) (aCons (aVar 3) (aNil)))) (aCons (aTup (aCons (aC (.str "head")) (aCons (aCall A__law_plain (aCons (aOp ixA (aVar 6) (aC (.int 1))) (aNil))) (aCons (aOp ixA (aVar 6) (aC (.int 2))) (aNil))))) (aNil)))))))))))))
theorem ok__law_case_right (h : Hd P w K mg base T) {k : Nat} {A__law_term : ASp} {A__law_indexed : ASp} {A__law_size : ASp} {A__law_term_right : ASp} {A__law_draw : ASp} {A__law_told : ASp} {A__law_plain : ASp} {A_head_after : ASp} {A__law_is : ASp} {A : ASp} (c__law_term : CalA P w K mg base T k "_law_term" A__law_term) (c__law_indexed : CalA P w K mg base T k "_law_indexed" A__law_indexed) (c__law_size : CalA P w K mg base T k "_law_size" A__law_size) (c__law_term_right : CalA P w K mg base T k "_law_term_right" A__law_term_right) (c__law_draw : CalA P w K mg base T k "_law_draw" A__law_draw) (c__law_told : CalA P w K mg base T k "_law_told" A__law_told) (c__law_plain : CalA P w K mg base T k "_law_plain" A__law_plain) (c_head_after : CalA P w K mg base T k "head_after" A_head_after) (c__law_is : CalA P w K mg base T k "_law_is" A__law_is)
    (len : ∀ va S R RE, A va S R RE → va.length = 1) (pure : ∀ va S R RE, A va S R RE → rd__law_case_right K A__law_term A__law_indexed A__law_size A__law_term_right A__law_draw A__law_told A__law_plain A_head_after A__law_is { nx := fun _ S' => R .non S', rt := R, ex := fun x _ S' => RE x S' } (astart N__law_case_right va) S) : CalA P w K mg base T (k + 1) "_law_case_right" A :=
  cal_of h.D__law_case_right sc__law_case_right (fun _ _ _ _ _ _ us hl => match us, hl with | [_], _ => rfl) len pure fun A outer s H E hr =>
    iss_cons (is_set (i := 1) sc__law_case_right.nd rfl (.inl rfl) (ie_callA c__law_term hr rfl (takes_of rfl rfl rfl rfl) (ia_cons (iv 0) (ia_cons (ie_int) (ia_cons (ie_lst (ia_nil)) (ia_nil))))))
      (iss_cons (is_set (i := 2) sc__law_case_right.nd rfl (.inl rfl) (ie_callA c__law_indexed hr rfl (takes_of rfl rfl rfl rfl) (ia_cons (iv 1) (ia_cons (ie_lst (ia_nil)) (ia_nil)))))
      (iss_cons (is_if (it_cmp oA_gt (ie_callA c__law_size hr rfl (takes_of rfl rfl rfl rfl) (ia_cons (iv 2) (ia_nil))) (ie_int) (nomark _)) (iss_one (is_ret (ie_bl))) (iss_nil))
      (iss_cons (is_if (it_not (it_val (ie_callA c__law_term_right hr rfl (takes_of rfl rfl rfl rfl) (ia_cons (iv 1) (ia_cons (iv 2) (ia_nil)))))) (iss_one (is_ret (ie_bl))) (iss_nil))
      (iss_cons (is_setLc (i := 3) (own := [("turn", 7)]) rfl sc__law_case_right.nd rfl rfl (sw_true rfl rfl rfl (by decide +kernel)) (ii_r1 rfl h.n_range (ie_callA c__law_draw hr rfl (takes_of rfl rfl rfl rfl) (ia_cons (iv 0) (ia_cons (ie_int) (ia_nil))))) (blkOk_by (own := [("turn", 7)]) (N := N__law_case_right) (sc := defScope s__law_case_right) (by decide +kernel)) (fun _ _ _ _ _ => igv_name (i := 7) sc__law_case_right.nd rfl (by first | exact .inl rfl | exact .inr rfl) (by decide)) (fun _ _ _ _ _ => its_nil) (fun _ _ _ _ _ => ie_callA c__law_term hr rfl takes0 (ia_cons (iv 0) (ia_cons (ie_int) (ia_cons (ie_lst (ia_nil)) (ia_nil))))))
      (iss_cons (is_set (i := 4) sc__law_case_right.nd rfl (.inl rfl) (iv 1))
      (iss_cons (is_for (passes_of rfl) rfl (ii_seq (iv 3)) (ig_name (i := 5) sc__law_case_right.nd rfl (.inl rfl)) (iss_one (is_set (i := 4) sc__law_case_right.nd rfl (.inl rfl) (ie_tup (ia_cons (ie_str) (ia_cons (iv 4) (ia_cons (iv 5) (ia_nil))))))))
      (iss_cons (is_set (i := 6) sc__law_case_right.nd rfl (.inl rfl) (ie_callA c__law_told hr rfl (takes_of rfl rfl rfl rfl) (ia_cons (ie_callA c__law_indexed hr rfl (takes_of rfl rfl rfl rfl) (ia_cons (iv 4) (ia_cons (ie_lst (ia_nil)) (ia_nil)))) (ia_cons (ie_int) (ia_nil)))))
      (iss_cons (is_if (it_w (iw_or (it_cmp oA_is (iv 6) (ie_non) (nomark _)) (iw_or1 (it_cmp oA_gt (ie_callA c__law_size hr rfl (takes_of rfl rfl rfl rfl) (ia_cons (ie_callA c__law_indexed hr rfl (takes_of rfl rfl rfl rfl) (ia_cons (iv 4) (ia_cons (ie_lst (ia_nil)) (ia_nil)))) (ia_nil))) (ie_int) (nomark _))))) (iss_one (is_ret (ie_bl))) (iss_nil))
      (iss_one (is_ret (ie_callA c__law_is hr rfl (takes_of rfl rfl rfl rfl) (ia_cons (ie_callA c_head_after hr rfl (takes_of rfl rfl rfl rfl) (ia_cons (iv 1) (ia_cons (iv 3) (ia_nil)))) (ia_cons (ie_tup (ia_cons (ie_str) (ia_cons (ie_callA c__law_plain hr rfl (takes_of rfl rfl rfl rfl) (ia_cons (ie_ix (iv 6) (ie_int)) (ia_nil))) (ia_cons (ie_ix (iv 6) (ie_int)) (ia_nil))))) (ia_nil))))))))))))))
def rd_law (K : PySem.W.Frag) (A__law_hand : ASp) (A_head_told : ASp) (A_has_head : ASp) (A__law_is : ASp) (A_head_after : ASp) (A__law_any : ASp) (A__law_case_right : ASp) : AS :=
  sSeq (sSet 1 (aCall A__law_hand (aCons (aVar 0) (aNil)))) (sSeq (sAsg (aTup (aCons (aTup (aCons (aC (.str "with")) (aCons (aC (.str "x")) (aCons (aC (.str "x")) (aNil))))) (aCons (aTup (aCons (aC (.str "with")) (aCons (aC (.str "x")) (aCons (aTup (aCons (aC (.str "of")) (aCons (aC (.str "x")) (aCons (aC (.str "x")) (aNil))))) (aNil))))) (aNil)))) (tTupA 2 (tConsA (tName 2) (tConsA (tName 3) (tNilA))))) (sSeq (sSet 4 (aLst (aCons (aCall A_head_told (aCons (aTup (aCons (aC (.str "of")) (aCons (aVar 3) (aCons (aTup (aCons (aC (.str "of")) (aCons (aVar 2) (aCons (aC (.str "y")) (aNil))))) (aNil))))) (aNil))) (aCons (aCall A_head_told (aCons (aTup (aCons (aC (.str "of")) (aCons (aVar 3) (aCons (aVar 3) (aNil))))) (aNil))) (aNil))))) (sSeq (sDrop (aBM "list" appendM (aVar 4) (aCons (aCall A_has_head (aCons (aTup (aCons (aC (.str "of")) (aCons (aVar 3) (aCons (aVar 3) (aNil))))) (aNil))) (aNil)))) (sSeq (sSet 5 (aLst (aCons (aTup (aCons (aC (.str "head")) (aCons (aTup (aCons (aC (.str "of")) (aCons (aC (.str "y")) (aCons (aTup (aCons (aC (.str "of")) (aCons (aTup (aCons (aC (.str "with")) (aCons (aC (.str "a")) (aCons (aC (.str "a")) (aNil))))) (aCons (aC (.str "y")) (aNil))))) (aNil))))) (aCons (aC (.int 2)) (aNil))))) (aCons (aTup (aCons (aC (.str "more")) (aNil))) (aCons (aC (.bl false)) (aNil)))))) (sSeq (sIf (aOr (aNot (aTest (aCall A__law_is (aCons (aVar 4) (aCons (aVar 5) (aNil)))))) (aTest (aOp neA (aCall A_head_after (aCons (aVar 3) (aCons (aLst (aCons (aC (.str "y")) (aNil))) (aNil)))) (aTup (aCons (aC (.str "head")) (aCons (aTup (aCons (aC (.str "of")) (aCons (aC (.str "y")) (aCons (aC (.str "y")) (aNil))))) (aCons (aC (.int 1)) (aNil)))))))) (sRet (aC (.bl false))) (sNext)) (sSeq (sSet 6 (aCall A_head_told (aCons (aTup (aCons (aC (.str "with")) (aCons (aC (.str "x")) (aCons (aTup (aCons (aC (.str "of")) (aCons (aC (.str "x")) (aCons (aTup (aCons (aC (.str "of")) (aCons (aVar 2) (aCons (aC (.str "y")) (aNil))))) (aNil))))) (aNil))))) (aNil)))) (sSeq (sIf (aTest (aOp neA (aVar 6) (aTup (aCons (aC (.str "head")) (aCons (aTup (aCons (aC (.str "with")) (aCons (aC (.str "a")) (aCons (aTup (aCons (aC (.str "of")) (aCons (aC (.str "a")) (aCons (aTup (aCons (aC (.str "of")) (aCons (aTup (aCons (aC (.str "with")) (aCons (aC (.str "b")) (aCons (aC (.str "b")) (aNil))))) (aCons (aC (.str "y")) (aNil))))) (aNil))))) (aNil))))) (aCons (aC (.int 0)) (aNil))))))) (sRet (aC (.bl false))) (sNext)) (sSeq (sSet 7 (aLst (aCons (aC .non) (aCons (aC (.str "")) (aCons (aC (.str "X")) (aCons (aTup (aCons (aC (.str "of")) (aCons (aC (.str "a")) (aNil)))) (aCons (aTup (aCons (aC (.str "with")) (aCons (aC (.str "a")) (aNil)))) (aCons (aTup (aCons (aC (.str "with")) (aCons (aC (.str "A")) (aCons (aC (.str "a")) (aNil))))) (aCons (aLst (aCons (aC (.str "of")) (aCons (aC (.str "a")) (aCons (aC (.str "b")) (aNil))))) (aCons (aTup (aCons (aC (.str "of")) (aCons (aC (.str "a")) (aCons (aC (.int 0)) (aNil))))) (aNil))))))))))) (sSeq (sSet 7 (aOp addA (aVar 7) (aLst (aCons (aC (.int 0)) (aCons (aTup (aCons (aC (.str "to")) (aCons (aC (.str "a")) (aCons (aC (.str "b")) (aNil))))) (aCons (aTup (aNil)) (aCons (aTup (aCons (aC (.str "with")) (aCons (aTup (aCons (aC (.str "of")) (aCons (aC (.str "a")) (aCons (aC (.str "b")) (aNil))))) (aCons (aC (.str "a")) (aNil))))) (aCons (aTup (aCons (aC (.str "of")) (aCons (aC (.str "a")) (aCons (aC (.str "b")) (aCons (aC (.str "c")) (aNil)))))) (aNil))))))))) (sSeq (sSet 7 (aCall A__law_any (aCons (aVar 1) (aCons (aVar 7) (aNil))))) (sSeq (sSet 8 (aLst (aCons (aLam2 N__law_word "law.<locals>.<lambda>" (rd__law_word K) (aCall A_head_told (aCons (aVar 7) (aNil)))) (aCons (aLam2 N__law_word "law.<locals>.<lambda>" (rd__law_word K) (aCall A_has_head (aCons (aVar 7) (aNil)))) (aNil))))) (sSeq (sDrop (aBM "list" appendM (aVar 8) (aCons (aLam2 N__law_word "law.<locals>.<lambda>" (rd__law_word K) (aCall A_head_after (aCons (aVar 7) (aCons (aLst (aNil)) (aNil))))) (aNil)))) (sRet (aAndV (aOp eqA (aVar 8) (aOp mulA (aLst (aCons (aC (.str "!NoTerm")) (aNil))) (aC (.int 3)))) (aCB allC (aCons (aLc (iR1 (aC (.int 6))) (tName 9) (aYes) (aCall A__law_case_right (aCons (aVar 1) (aNil))) [9]) (aNil)))))))))))))))))
theorem ok_law (h : Hd P w K mg base T) {j k : Nat} (hj : j + 2 ≤ k) {A__law_hand : ASp} {A_head_told : ASp} {A_has_head : ASp} {A__law_is : ASp} {A_head_after : ASp} {A__law_any : ASp} {A__law_case_right : ASp} {A : ASp} (c__law_hand : CalA P w K mg base T j "_law_hand" A__law_hand) (c_head_told : CalA P w K mg base T j "head_told" A_head_told) (c_has_head : CalA P w K mg base T j "has_head" A_has_head) (c__law_is : CalA P w K mg base T j "_law_is" A__law_is) (c_head_after : CalA P w K mg base T j "head_after" A_head_after) (c__law_any : CalA P w K mg base T j "_law_any" A__law_any) (c__law_case_right : CalA P w K mg base T j "_law_case_right" A__law_case_right)
    (len : ∀ va S R RE, A va S R RE → va.length = 1) (pure : ∀ va S R RE, A va S R RE → rd_law K A__law_hand A_head_told A_has_head A__law_is A_head_after A__law_any A__law_case_right { nx := fun _ S' => R .non S', rt := R, ex := fun x _ S' => RE x S' } (astart N_law va) S) : FnA P w K mg base T (k + 1) "law" s_law ["script"] A :=
  have hjk : j ≤ k := by omega
  fnA_of sc_law len pure fun A outer s H E hr =>
    iss_cons (is_set (i := 1) sc_law.nd rfl (.inr rfl) (ie_callA (c__law_hand.mono hjk) hr rfl (takes_of rfl rfl rfl rfl) (ia_cons (iv 0) (ia_nil))))
      (iss_cons (is_asg (ie_tup (ia_cons (ie_tup (ia_cons (ie_str) (ia_cons (ie_str) (ia_cons (ie_str) (ia_nil))))) (ia_cons (ie_tup (ia_cons (ie_str) (ia_cons (ie_str) (ia_cons (ie_tup (ia_cons (ie_str) (ia_cons (ie_str) (ia_cons (ie_str) (ia_nil))))) (ia_nil))))) (ia_nil)))) (ig_tup rfl (igs_cons (ig_name (i := 2) sc_law.nd rfl (.inl rfl)) (igs_cons (ig_name (i := 3) sc_law.nd rfl (.inl rfl)) (igs_nil)))))
      (iss_cons (is_set (i := 4) sc_law.nd rfl (.inl rfl) (ie_lst (ia_cons (ie_callA (c_head_told.mono hjk) hr rfl (takes_of rfl rfl rfl rfl) (ia_cons (ie_tup (ia_cons (ie_str) (ia_cons (iv 3) (ia_cons (ie_tup (ia_cons (ie_str) (ia_cons (iv 2) (ia_cons (ie_str) (ia_nil))))) (ia_nil))))) (ia_nil))) (ia_cons (ie_callA (c_head_told.mono hjk) hr rfl (takes_of rfl rfl rfl rfl) (ia_cons (ie_tup (ia_cons (ie_str) (ia_cons (iv 3) (ia_cons (iv 3) (ia_nil))))) (ia_nil))) (ia_nil)))))
      (iss_cons (is_expr (ie_bm PySem.F.plainAttrs_list PySem.F.slot_list_append PySem.F.type_list_append mA_append (iv 4) (ia_cons (ie_callA (c_has_head.mono hjk) hr rfl (takes_of rfl rfl rfl rfl) (ia_cons (ie_tup (ia_cons (ie_str) (ia_cons (iv 3) (ia_cons (iv 3) (ia_nil))))) (ia_nil))) (ia_nil))))
      (iss_cons (is_set (i := 5) sc_law.nd rfl (.inl rfl) (ie_lst (ia_cons (ie_tup (ia_cons (ie_str) (ia_cons (ie_tup (ia_cons (ie_str) (ia_cons (ie_str) (ia_cons (ie_tup (ia_cons (ie_str) (ia_cons (ie_tup (ia_cons (ie_str) (ia_cons (ie_str) (ia_cons (ie_str) (ia_nil))))) (ia_cons (ie_str) (ia_nil))))) (ia_nil))))) (ia_cons (ie_int) (ia_nil))))) (ia_cons (ie_tup (ia_cons (ie_str) (ia_nil))) (ia_cons (ie_bl) (ia_nil))))))
      (iss_cons (is_if (it_w (iw_or (it_not (it_val (ie_callA (c__law_is.mono hjk) hr rfl (takes_of rfl rfl rfl rfl) (ia_cons (iv 4) (ia_cons (iv 5) (ia_nil)))))) (iw_or1 (it_cmp (oA_ne hr.units) (ie_callA (c_head_after.mono hjk) hr rfl (takes_of rfl rfl rfl rfl) (ia_cons (iv 3) (ia_cons (ie_lst (ia_cons (ie_str) (ia_nil))) (ia_nil)))) (ie_tup (ia_cons (ie_str) (ia_cons (ie_tup (ia_cons (ie_str) (ia_cons (ie_str) (ia_cons (ie_str) (ia_nil))))) (ia_cons (ie_int) (ia_nil))))) (nomark _))))) (iss_one (is_ret (ie_bl))) (iss_nil))
      (iss_cons (is_set (i := 6) sc_law.nd rfl (.inl rfl) (ie_callA (c_head_told.mono hjk) hr rfl (takes_of rfl rfl rfl rfl) (ia_cons (ie_tup (ia_cons (ie_str) (ia_cons (ie_str) (ia_cons (ie_tup (ia_cons (ie_str) (ia_cons (ie_str) (ia_cons (ie_tup (ia_cons (ie_str) (ia_cons (iv 2) (ia_cons (ie_str) (ia_nil))))) (ia_nil))))) (ia_nil))))) (ia_nil))))
      (iss_cons (is_if (it_cmp (oA_ne hr.units) (iv 6) (ie_tup (ia_cons (ie_str) (ia_cons (ie_tup (ia_cons (ie_str) (ia_cons (ie_str) (ia_cons (ie_tup (ia_cons (ie_str) (ia_cons (ie_str) (ia_cons (ie_tup (ia_cons (ie_str) (ia_cons (ie_tup (ia_cons (ie_str) (ia_cons (ie_str) (ia_cons (ie_str) (ia_nil))))) (ia_cons (ie_str) (ia_nil))))) (ia_nil))))) (ia_nil))))) (ia_cons (ie_int) (ia_nil))))) (nomark _)) (iss_one (is_ret (ie_bl))) (iss_nil))
      (iss_cons (is_set (i := 7) sc_law.nd rfl (.inr rfl) (ie_lst (ia_cons (ie_non) (ia_cons (ie_str) (ia_cons (ie_str) (ia_cons (ie_tup (ia_cons (ie_str) (ia_cons (ie_str) (ia_nil)))) (ia_cons (ie_tup (ia_cons (ie_str) (ia_cons (ie_str) (ia_nil)))) (ia_cons (ie_tup (ia_cons (ie_str) (ia_cons (ie_str) (ia_cons (ie_str) (ia_nil))))) (ia_cons (ie_lst (ia_cons (ie_str) (ia_cons (ie_str) (ia_cons (ie_str) (ia_nil))))) (ia_cons (ie_tup (ia_cons (ie_str) (ia_cons (ie_str) (ia_cons (ie_int) (ia_nil))))) (ia_nil)))))))))))
      (iss_cons (is_set (i := 7) sc_law.nd rfl (.inr rfl) (ie_op oA_add (iv 7) (ie_lst (ia_cons (ie_int) (ia_cons (ie_tup (ia_cons (ie_str) (ia_cons (ie_str) (ia_cons (ie_str) (ia_nil))))) (ia_cons (ie_tup (ia_nil)) (ia_cons (ie_tup (ia_cons (ie_str) (ia_cons (ie_tup (ia_cons (ie_str) (ia_cons (ie_str) (ia_cons (ie_str) (ia_nil))))) (ia_cons (ie_str) (ia_nil))))) (ia_cons (ie_tup (ia_cons (ie_str) (ia_cons (ie_str) (ia_cons (ie_str) (ia_cons (ie_str) (ia_nil)))))) (ia_nil)))))))))
      (iss_cons (is_set (i := 7) sc_law.nd rfl (.inr rfl) (ie_callA (c__law_any.mono hjk) hr rfl (takes_of rfl rfl rfl rfl) (ia_cons (iv 1) (ia_cons (iv 7) (ia_nil)))))
      (iss_cons (is_set (i := 8) sc_law.nd rfl (.inl rfl) (ie_lst (ia_cons (ie_lamA2 h.D__law_word rfl sc__law_word rfl (.inl rfl) (fun _ _ _ _ _ _ us hl => match us, hl with | [_], _ => rfl) (fun g cdv => gv__law_word h (hr.mono hj)) h.L_law rfl rfl h.lm_law h.lu_law (hr.mono hj) (show LamX.LamS (defScope s_law) _ from LamX.lamS_by (by decide +kernel)) rfl (fun _ _ _ _ _ => rfl) (fun A outer s H E f c hr2 => ie_callA c_head_told hr2 rfl (takes_of rfl rfl rfl rfl) (ia_cons (iv 7) (ia_nil)))) (ia_cons (ie_lamAD (pp := "of") h.D__law_word rfl sc__law_word rfl (.inl rfl) (fun _ _ _ _ _ _ us hl => match us, hl with | [_], _ => rfl) (fun g cdv => gv__law_word h (hr.mono hj)) h.L_law rfl rfl h.lm_law h.lu_law (hr.mono hj) (show LamSD (defScope s_law) _ "of" from lamSD_by (by decide +kernel)) (show ("of" : Str) ∉ N_law from by decide +kernel) rfl rfl (fun _ _ _ _ _ _ _ _ => ⟨_, rfl, rfl⟩) (fun A outer s H E f c hr2 => ie_callA c_has_head hr2 rfl (takes_of rfl rfl rfl rfl) (ia_cons (iv 7) (ia_nil)))) (ia_nil)))))
      (iss_cons (is_expr (ie_bm PySem.F.plainAttrs_list PySem.F.slot_list_append PySem.F.type_list_append mA_append (iv 8) (ia_cons (ie_lamA2 h.D__law_word rfl sc__law_word rfl (.inl rfl) (fun _ _ _ _ _ _ us hl => match us, hl with | [_], _ => rfl) (fun g cdv => gv__law_word h (hr.mono hj)) h.L_law rfl rfl h.lm_law h.lu_law (hr.mono hj) (show LamX.LamS (defScope s_law) _ from LamX.lamS_by (by decide +kernel)) rfl (fun _ _ _ _ _ => rfl) (fun A outer s H E f c hr2 => ie_callA c_head_after hr2 rfl (takes_of rfl rfl rfl rfl) (ia_cons (iv 7) (ia_cons (ie_lst (ia_nil)) (ia_nil))))) (ia_nil))))
      (iss_one (is_ret (ie_and (ie_cmp (oA_eq hr.units) (iv 8) (ie_op oA_mul (ie_lst (ia_cons (ie_str) (ia_nil))) (ie_int)) (nomark _)) (ie_one (ie_callB (cA_all rfl) rfl h.n_all (by decide +kernel) (ia_cons (ie_lc (own := [("turn", 9)]) rfl sc_law.nd (ii_r1 rfl h.n_range (ie_int)) (blkOk_by (own := [("turn", 9)]) (N := N_law) (sc := defScope s_law) (by decide +kernel)) (fun _ _ _ _ _ => igv_name (i := 9) sc_law.nd rfl (by first | exact .inl rfl | exact .inr rfl) (by decide)) (fun _ _ _ _ _ => its_nil) (fun _ _ _ _ _ => ie_callA (c__law_case_right.mono hjk) hr rfl takes0 (ia_cons (iv 1) (ia_nil)))) (ia_nil)))))))))))))))))))
end
end G

set_option Elab.async false
set_option linter.all false
set_option maxRecDepth 100000
set_option maxHeartbeats 1000000
set_option autoImplicit false
namespace A3
open PySem
/-! ### plain tools -/
/-- the store grows: what stands stays -/
def Ext (S S' : Store) : Prop := ∀ a c, S a = some c → S' a = some c
theorem Ext.refl (S : Store) : Ext S S := fun _ _ h => h
theorem Ext.trans {S S1 S2 : Store} (h : Ext S S1) (k : Ext S1 S2) : Ext S S2 := fun a c e => k a c (h a c e)
theorem Ext.new {S : Store} {p : Addr} {c : Cell} (h : S p = none) : Ext S (ups S p c) := fun a d e => by
  by_cases q : a = p
  · subst q; rw [h] at e; cases e
  · rw [ups_ne q]; exact e
theorem ne_of_new {S : Store} {a p : Addr} {c : Cell} (h : S a = some c) (n : S p = none) : a ≠ p := fun e => by subst e; rw [h] at n; cases n
def tyOk (x : Val) (S : Store) : Prop := (tyV? x S).isSome = true
def isI (Ty : String) (x : Val) (S : Store) : Bool := match tyV? x S with
  | some t => subTy t Ty
  | none => false
theorem aIsi_at {Ty : String} {x : Val} {S : Store} {R : AK} {a : AE} {E : AX} {es : AEnv} (h : a E es S fun y S1 => y = x ∧ S1 = S) (t : tyOk x S) (r : R (.bl (isI Ty x S)) S)
    (m : ∀ (P Q : Val → Store → Prop), a E es S P → (∀ y S1, P y S1 → Q y S1) → a E es S Q) : aIsi Ty a E es S R := by
  refine m _ _ h fun y S1 ⟨e1, e2⟩ => ?_
  subst e1 e2
  unfold tyOk at t
  cases q : tyV? y S1 with
  | none => rw [q] at t; cases t
  | some k => simpa [isI, q] using r
theorem ty_ref {S : Store} {p : Addr} {t : String} (h : tyV? (.ref p) S = some t) : t = "list" ∨ t = "dict" := by
  simp only [tyV?] at h
  split at h <;> simp_all
section
variable {t u : AS} {a b b2 : AE} {c d : AT} {ta : AA} {i j : Nat} {D : AEnds} {E : AX} {es : AEnv} {S : Store} {R : AK} {RA : List Val → Store → Prop} {RT : Bool → Store → Prop} {RG : AEnv → Store → Prop} {RQ : Seq → Store → Prop} {RS : Store → Prop} {RO : Option Int → Store → Prop} {o1 o2 : AO} {r r2 : A2} {g : AG} {gs : AGs} {asp : ASp} {rc : AC} {rm : AM} {v w : Val} {vs vs2 : List Val} {n : Nat} {Ty : String} {C p p2 : Addr} {m k : Int} {z z2 : Str} {q q2 : Bool}
theorem x_seq : sSeq t u D es S = t { D with nx := u D } es S := rfl
theorem x_next : sNext D es S = D.nx es S := rfl
theorem x_brk : sBreak D es S = D.bk es S := rfl
theorem x_cont : sCont D es S = D.ct es S := rfl
theorem x_set : sSet i a D es S = a (D.xe es) es S fun v S1 => D.nx (es.set i (some v)) S1 := rfl
theorem x_ret : sRet a D es S = a (D.xe es) es S D.rt := rfl
theorem x_retN : sRetN D es S = D.rt .non S := rfl
theorem x_drop : sDrop a D es S = a (D.xe es) es S fun _ S1 => D.nx es S1 := rfl
theorem x_if : sIf c t u D es S = c (D.xe es) es S fun b S1 => if b = true then t D es S1 else u D es S1 := rfl
theorem x_asg : sAsg a g D es S = a (D.xe es) es S fun v S1 => g (D.xe es) v es S1 D.nx := rfl
theorem x_par : sPar i j ta D es S = ta (D.xe es) es S fun vs S1 => match vs with
  | [v, w] => D.nx ((es.set i (some v)).set j (some w)) S1
  | _ => False := rfl
theorem x_par3 {l : Nat} : sPar3 i j l ta D es S = ta (D.xe es) es S fun vs S1 => match vs with
  | [u, v, w] => D.nx (((es.set i (some u)).set j (some v)).set l (some w)) S1
  | _ => False := rfl
theorem x_tupF : aTupF ta E es S R = ta E es S fun xs S1 => xs.length ≤ sizeLine ∧ ∀ p, S1 p = none → R (.ref p) (ups S1 p (.ft xs)) := rfl
theorem x_bmF : aBMF rm a ta E es S R = a E es S fun x S1 => (∃ p xs, x = .ref p ∧ S1 p = some (.ft xs)) ∧ ta E es S1 fun xs S2 => rm x xs S2 R := rfl
theorem x_raise0 : sRaise0 C D es S = D.ex ⟨C, none⟩ es S := rfl
theorem x_xe : AEnds.xe D es = fun x S => D.ex x es S := rfl
theorem x_var : aVar i E es S R = match es[i]? with
  | some (some v) => R v S
  | _ => False := rfl
theorem x_c : aC v E es S R = R v S := rfl
theorem x_op : aOp r a b E es S R = a E es S fun x S1 => b E es S1 fun y S2 => r x y S2 R := rfl
theorem x_test : aTest a E es S RT = a E es S fun x S1 => match x with
  | .bl b => RT b S1
  | _ => False := rfl
theorem x_yes : aYes E es S RT = RT true S := rfl
theorem x_and : aAnd c d E es S RT = c E es S fun b S1 => if b = true then d E es S1 RT else RT false S1 := rfl
theorem x_or : aOr c d E es S RT = c E es S fun b S1 => if b = true then RT true S1 else d E es S1 RT := rfl
theorem x_not : aNot c E es S RT = c E es S fun b S1 => RT (!b) S1 := rfl
theorem x_ifE : aIf c a b E es S R = c E es S fun k S1 => if k = true then a E es S1 R else b E es S1 R := rfl
theorem x_nil : aNil E es S RA = RA [] S := rfl
theorem x_cons : aCons a ta E es S RA = a E es S fun x S1 => ta E es S1 fun xs S2 => RA (x :: xs) S2 := rfl
theorem x_tup : aTup ta E es S R = ta E es S fun xs S1 => xs.length ≤ sizeLine ∧ R (.tup xs) S1 := rfl
theorem x_lst : aLst ta E es S R = ta E es S fun xs S1 => xs.length ≤ sizeLine ∧ ∀ p, S1 p = none → R (.ref p) (ups S1 p (.lst xs)) := rfl
theorem x_call : aCall asp ta E es S R = ta E es S fun vs S1 => asp vs S1 R E := rfl
theorem x_cb : aCB rc ta E es S R = ta E es S fun xs S1 => rc xs S1 R := rfl
theorem x_bm : aBM Ty rm a ta E es S R = a E es S fun x S1 => tyA Ty x S1 ∧ ta E es S1 fun xs S2 => rm x xs S2 R := rfl
theorem x_bm0 : aBM0 Ty rm a E es S R = a E es S fun x S1 => tyA Ty x S1 ∧ rm x [] S1 R := rfl
theorem x_name : tName i E v es S RG = RG (es.set i (some v)) S := rfl
theorem x_tnil : tNilA E vs es S RG = (vs = [] ∧ RG es S) := rfl
theorem x_dk : aDk E es S R = ∀ p, S p = none → R (.ref p) (ups S p (.dk [])) := rfl
theorem x_dt : aDt E es S R = ∀ p, S p = none → R (.ref p) (ups S p (.dt [])) := rfl
theorem x_ttup : tTupA n gs E (.tup vs) es S RG = (vs.length = n ∧ gs (fun _ _ => False) vs es S RG) := rfl
theorem x_tcons : tConsA g gs E (v :: vs) es S RG = g (fun _ _ => False) v es S fun es1 S1 => gs (fun _ _ => False) vs es1 S1 RG := rfl
theorem x_neg : aNeg a E es S R = a E es S fun x S1 => match x with
  | .int i => R (.int (-i)) S1
  | _ => False := rfl
theorem x_sl : aSl a o1 o2 E es S R = a E es S fun x S1 => o1 E es S1 fun l S2 => o2 E es S2 fun h S3 => slA x l h S3 R := rfl
theorem x_none : oNone E es S RO = RO none S := rfl
theorem x_some : oSome a E es S RO = a E es S fun x S1 => match x with
  | .int i => RO (some i) S1
  | _ => False := rfl
theorem x_aug : sAug i r a D es S = match es[i]? with
  | some (some x) => a (D.xe es) es S fun y S1 => r x y S1 fun z S2 => D.nx (es.set i (some z)) S2
  | _ => False := rfl
theorem x_add1 : addA (.int m) (.int k) S R = R (.int (m + k)) S := rfl
theorem x_add2 : addA (.str z) (.str z2) S R = (z.length + z2.length ≤ sizeLine ∧ R (.str (z ++ z2)) S) := rfl
theorem x_add3 : addA (.tup vs) (.tup vs2) S R = (vs.length + vs2.length ≤ sizeLine ∧ R (.tup (vs ++ vs2)) S) := rfl
theorem x_iadd1 : iaddA (.int m) (.int k) S R = R (.int (m + k)) S := rfl
theorem x_sub1 : subA (.int m) (.int k) S R = R (.int (m - k)) S := rfl
theorem x_mul1 : mulA (.int m) (.int k) S R = ((L2.CMul m k ∨ L2.CMulW m k) ∧ R (.int (m * k)) S) := rfl
theorem x_fdiv1 : fdivA (.int m) (.int k) S R = ((L2.CDiv m k ∨ L2.CDivW m k) ∧ R (.int (m / k)) S) := rfl
theorem x_mod1 : modA (.int m) (.int k) S R = (0 < k ∧ R (.int (m % k)) S) := rfl
theorem x_lt1 : ltA (.int m) (.int k) S R = R (.bl (decide (m < k))) S := rfl
theorem x_le1 : leA (.int m) (.int k) S R = R (.bl (decide (m ≤ k))) S := rfl
theorem x_gt1 : gtA (.int m) (.int k) S R = R (.bl (decide (k < m))) S := rfl
theorem x_ge1 : geA (.int m) (.int k) S R = R (.bl (decide (k ≤ m))) S := rfl
theorem x_eq1 : eqA (.int m) (.int k) S R = R (.bl (decide (m = k))) S := rfl
theorem x_eq2 : eqA (.str z) (.str z2) S R = R (.bl (decide (z = z2))) S := rfl
theorem x_eq3 : eqA (.bl q) (.bl q2) S R = R (.bl (decide (q = q2))) S := rfl
theorem x_ne1 : neA (.int m) (.int k) S R = R (.bl (!decide (m = k))) S := rfl
theorem x_ne2 : neA (.str z) (.str z2) S R = R (.bl (!decide (z = z2))) S := rfl
theorem x_ne3 : neA (.bl q) (.bl q2) S R = R (.bl (!decide (q = q2))) S := rfl
theorem x_is1 : isA v .non S R = R (.bl (isNV v)) S := rfl
theorem x_isn1 : isnotA v .non S R = R (.bl (!isNV v)) S := rfl
theorem x_ix2 : ixA (.str z) (.int m) S R = ∃ c, z.length ≤ sizeLine ∧ L2.atI z.cps.toList m = some c ∧ R (.str ⟨#[c]⟩) S := rfl
theorem x_abs : absC [.int m] S R = R (.int (if m < 0 then -m else m)) S := rfl
theorem x_int1 : intC [.int m] S R = R (.int m) S := rfl
theorem x_int2 : intC [.bl q] S R = R (.int (if q then 1 else 0)) S := rfl
theorem x_max2 : max2C [.int m, .int k] S R = R (.int (if k > m then k else m)) S := rfl
theorem x_min2 : min2C [.int m, .int k] S R = R (.int (if k < m then k else m)) S := rfl
theorem x_len1 : lenC [.str z] S R = (z.length ≤ sizeLine ∧ R (.int z.length) S) := rfl
theorem x_len2 : lenC [.tup vs] S R = R (.int vs.length) S := rfl
/-- an Option must be something -/
def kO {α : Type} : Option α → (α → Prop) → Prop
  | some v, F => F v
  | none, _ => False
theorem kO_some {α : Type} {v : α} {F : α → Prop} : kO (some v) F = F v := rfl
theorem kO_iff {α : Type} {o : Option α} {F : α → Prop} : kO o F = ∃ v, o = some v ∧ F v := by cases o <;> simp [kO]
def kL : Option Cell → (List Val → Prop) → Prop
  | some (.lst xs), F => F xs
  | some (.rd xs), F => F xs
  | _, _ => False
theorem kL_lst {xs : List Val} {F : List Val → Prop} : kL (some (.lst xs)) F = F xs := rfl
theorem kL_rd {xs : List Val} {F : List Val → Prop} : kL (some (.rd xs)) F = F xs := rfl
theorem kL_iff {o : Option Cell} {F : List Val → Prop} : kL o F = ∃ xs, (o = some (.lst xs) ∨ o = some (.rd xs)) ∧ F xs := by
  rcases o with _ | c
  · simp [kL]
  · cases c <;> simp [kL]
/-- a list that may be written -/
def kW : Option Cell → (List Val → Prop) → Prop
  | some (.lst xs), F => F xs
  | _, _ => False
theorem kW_lst {xs : List Val} {F : List Val → Prop} : kW (some (.lst xs)) F = F xs := rfl
theorem kW_iff {o : Option Cell} {F : List Val → Prop} : kW o F = ∃ xs, o = some (.lst xs) ∧ F xs := by
  rcases o with _ | c
  · simp [kW]
  · cases c <;> simp [kW]
theorem x_ix1 : ixA (.tup vs) (.int m) S R = kO (L2.atI vs m) fun v => R v S := by
  rw [kO_iff]; rfl
theorem x_ix3 : ixA (.ref p) (.int m) S R = kL (S p) fun xs => kO (L2.atI xs m) fun v => R v S := by
  rw [kL_iff]
  simp only [kO_iff, ixA]
  apply propext
  constructor
  · rintro ⟨xs, v, a, b, c⟩; exact ⟨xs, a, v, b, c⟩
  · rintro ⟨xs, a, v, b, c⟩; exact ⟨xs, v, a, b, c⟩
theorem x_dg : dgetA (.ref p) v S R = kO (S p) fun c => kO (getD? c v) fun o => kO o fun w => R w S := by
  simp only [kO_iff, dgetA]
  apply propext
  constructor
  · rintro ⟨c, w, a, b, d⟩; exact ⟨c, a, _, b, _, rfl, d⟩
  · rintro ⟨c, a, o, b, w, rfl, d⟩; exact ⟨c, w, a, b, d⟩
theorem x_app : appendM (.ref p) [v] S R = kW (S p) fun ys => ys.length < sizeLine ∧ R .non (ups S p (.lst (ys ++ [v]))) := by
  rw [kW_iff]; rfl
theorem x_ext1 : extendM (.ref p) [.ref p2] S R = kW (S p) fun ys => kW (S p2) fun zs => ys.length + zs.length ≤ sizeLine ∧ R .non (ups S p (.lst (ys ++ zs))) := by
  simp only [kW_iff, extendM]
  apply propext
  constructor
  · rintro ⟨ys, zs, a, b, c⟩; exact ⟨ys, a, zs, b, c⟩
  · rintro ⟨ys, a, zs, b, c⟩; exact ⟨ys, zs, a, b, c⟩
theorem x_ext2 : extendM (.ref p) [.tup vs] S R = kW (S p) fun ys => ys.length + vs.length ≤ sizeLine ∧ R .non (ups S p (.lst (ys ++ vs))) := by
  rw [kW_iff]; rfl
theorem x_pop0 : popM (.ref p) [] S R = kW (S p) fun ys => kO ys.getLast? fun y => R y (ups S p (.lst ys.dropLast)) := by
  simp only [kW_iff, kO_iff, popM, List.getLast?_eq_getElem?]
  apply propext
  constructor
  · rintro ⟨ys, y, a, b, c⟩; exact ⟨ys, a, y, b, c⟩
  · rintro ⟨ys, a, y, b, c⟩; exact ⟨ys, y, a, b, c⟩
theorem x_rng1 {a : AE} : iR1 a E es S RQ = a E es S fun x S1 => match x with
  | .int j => -(2 ^ 62) ≤ j ∧ j < 2 ^ 62 ∧ RQ ⟨rgI 0 j, fun _ => True⟩ S1
  | _ => False := rfl
/-- from i to j -/
def kR2 : Val → Val → Store → (Seq → Store → Prop) → Prop
  | .int i, .int j, S, RQ => (-(2 ^ 62) ≤ i ∧ i < 2 ^ 62 ∧ -(2 ^ 62) ≤ j ∧ j < 2 ^ 62) ∧ RQ ⟨rgI i j, fun _ => True⟩ S
  | _, _, _, _ => False
theorem x_rng2 : iR2 a b E es S RQ = a E es S fun x S1 => b E es S1 fun y S2 => kR2 x y S2 RQ := by
  unfold iR2
  congr 1
  funext x S1
  congr 1
  funext y S2
  cases x <;> cases y <;> rfl
theorem x_kR2 : kR2 (.int m) (.int k) S RQ = ((-(2 ^ 62) ≤ m ∧ m < 2 ^ 62 ∧ -(2 ^ 62) ≤ k ∧ k < 2 ^ 62) ∧ RQ ⟨rgI m k, fun _ => True⟩ S) := rfl
/-- what is gone through -/
def kSq : Val → Store → (Seq → Store → Prop) → Prop
  | .tup xs, S, RQ => RQ ⟨xs, fun _ => True⟩ S
  | .ref p, S, RQ => kL (S p) fun xs => RQ ⟨xs, fun S => S p = some (.lst xs) ∨ S p = some (.rd xs)⟩ S
  | _, _, _ => False
theorem x_iseq : iSeq a E es S RQ = a E es S fun v S1 => kSq v S1 RQ := by
  unfold iSeq
  congr 1
  funext v S1
  cases v <;> simp only [kSq, kL_iff]
theorem x_kSqT : kSq (.tup vs) S RQ = RQ ⟨vs, fun _ => True⟩ S := rfl
theorem x_kSqL : kSq (.ref p) S RQ = kL (S p) fun xs => RQ ⟨xs, fun S => S p = some (.lst xs) ∨ S p = some (.rd xs)⟩ S := rfl
/-- an entry is put | a list's part is written -/
def kPut : Val → Val → Val → Store → (Store → Prop) → Prop
  | .ref p, y, v, S, N => kO (S p) fun c => kO (putD? c y v) fun c' => lenD c < sizeLine ∧ N (ups S p c')
  | _, _, _, _, _ => False
theorem x_dput {b2 : AE} : sDPut a b b2 D es S = a (D.xe es) es S fun v S1 => b (D.xe es) es S1 fun x S2 => b2 (D.xe es) es S2 fun y S3 => kPut x y v S3 fun S4 => D.nx es S4 := by
  unfold sDPut
  congr 1
  funext v S1
  congr 1
  funext x S2
  congr 1
  funext y S3
  cases x with
  | ref p =>
    simp only [kPut, kO_iff]
    apply propext
    constructor
    · rintro ⟨c, c', a, b, d, e⟩; exact ⟨c, a, c', b, d, e⟩
    · rintro ⟨c, a, c', b, d, e⟩; exact ⟨c, c', a, b, d, e⟩
  | _ => rfl
theorem x_kPut : kPut (.ref p) v w S RS = kO (S p) fun c => kO (putD? c v w) fun c' => lenD c < sizeLine ∧ RS (ups S p c') := rfl
def kSub : Val → Val → Val → Store → (Store → Prop) → Prop
  | .ref p, .int k, v, S, N => kW (S p) fun xs => kO (L2.ixN xs.length k) fun j => N (ups S p (.lst (xs.set j v)))
  | _, _, _, _, _ => False
theorem x_sub {b2 : AE} : sSub a b b2 D es S = a (D.xe es) es S fun v S1 => b (D.xe es) es S1 fun x S2 => b2 (D.xe es) es S2 fun y S3 => kSub x y v S3 fun S4 => D.nx es S4 := by
  unfold sSub tSub
  congr 1
  funext v S1
  congr 1
  funext x S2
  congr 1
  funext y S3
  cases x with
  | ref p =>
    cases y with
    | int k =>
      simp only [kSub, kO_iff, kW_iff]
      apply propext
      constructor
      · rintro ⟨c, c', a, b, e⟩; exact ⟨c, a, c', b, e⟩
      · rintro ⟨c, a, c', b, e⟩; exact ⟨c, c', a, b, e⟩
    | _ => rfl
  | _ => rfl
theorem x_kSub : kSub (.ref p) (.int m) w S RS = kW (S p) fun xs => kO (L2.ixN xs.length m) fun j => RS (ups S p (.lst (xs.set j w))) := rfl
/-- a piece of it -/
def kSl : Val → Option Int → Option Int → Store → AK → Prop
  | .tup xs, lo, hi, S, R => R (.tup (cutA xs lo hi)) S
  | .str z, lo, hi, S, R => z.length ≤ sizeLine ∧ R (.str (Txt.slice z lo hi)) S
  | .ref a, lo, hi, S, R => kL (S a) fun xs => ∀ p, S p = none → R (.ref p) (ups S p (.lst (cutA xs lo hi)))
  | _, _, _, _, _ => False
theorem x_slA {l h : Option Int} : slA v l h S R = kSl v l h S R := by
  cases v <;> simp only [slA, kSl, kL_iff]
theorem x_kSl1 {l h : Option Int} : kSl (.tup vs) l h S R = R (.tup (cutA vs l h)) S := rfl
theorem x_kSl2 {l h : Option Int} : kSl (.str z) l h S R = (z.length ≤ sizeLine ∧ R (.str (Txt.slice z l h)) S) := rfl
theorem x_kSl3 {l h : Option Int} : kSl (.ref p) l h S R = kL (S p) fun xs => ∀ p, S p = none → R (.ref p) (ups S p (.lst (cutA xs l h))) := rfl
def kRev : Val → Store → AK → Prop
  | .ref a, S, R => kL (S a) fun xs => ∀ p, S p = none → R (.ref p) (ups S p (.lst xs.reverse))
  | _, _, _ => False
theorem x_rev : aRev a E es S R = a E es S fun x S1 => kRev x S1 R := by
  unfold aRev
  congr 1
  funext v S1
  cases v <;> simp only [kRev, kL_iff]
theorem x_kRev : kRev (.ref p) S R = kL (S p) fun xs => ∀ p, S p = none → R (.ref p) (ups S p (.lst xs.reverse)) := rfl
def kLen : Option Cell → (Nat → Prop) → Prop
  | some (.lst ys), F => F ys.length
  | some (.rd ys), F => F ys.length
  | some (.dk ys), F => F ys.length
  | some (.dt ys), F => F ys.length
  | _, _ => False
theorem x_len3 : lenC [.ref p] S R = kLen (S p) fun n => R (.int n) S := by
  simp only [lenC]
  rcases S p with _ | c
  · rfl
  · cases c <;> rfl
theorem kLen_lst {xs : List Val} {F : Nat → Prop} : kLen (some (.lst xs)) F = F xs.length := rfl
theorem kLen_rd {xs : List Val} {F : Nat → Prop} : kLen (some (.rd xs)) F = F xs.length := rfl
theorem kLen_dt {xs : List (List L2.Key × Val)} {F : Nat → Prop} : kLen (some (.dt xs)) F = F xs.length := rfl
theorem kLen_dk {xs : List (L2.Key × Val)} {F : Nat → Prop} : kLen (some (.dk xs)) F = F xs.length := rfl
theorem x_tyL {xs : List Val} (h : S p = some (.lst xs)) : tyA "list" (.ref p) S = True := by simp [tyA, h]
theorem x_tyR {xs : List Val} (h : S p = some (.rd xs)) : tyA "list" (.ref p) S = True := by simp [tyA, h]
def kTy (Ty : String) : Option Cell → Prop
  | some (.lst _) => Ty = "list"
  | some (.rd _) => Ty = "list"
  | some (.dk _) => Ty = "dict"
  | some (.dt _) => Ty = "dict"
  | _ => False
theorem x_ty : tyA Ty (.ref p) S = kTy Ty (S p) := by
  simp only [tyA]
  rcases S p with _ | c
  · rfl
  · cases c <;> rfl
theorem kTy_lst {xs : List Val} : kTy Ty (some (.lst xs)) = (Ty = "list") := rfl
theorem kTy_rd {xs : List Val} : kTy Ty (some (.rd xs)) = (Ty = "list") := rfl
theorem x_tyS : tyA Ty (.str z) S = (Ty = "str") := rfl
def kIn : Option Cell → Val → (Bool → Prop) → Prop
  | some (.lst ys), x, F => flat x = true ∧ ys.all flat = true ∧ F (inF x ys)
  | some (.rd ys), x, F => flat x = true ∧ ys.all flat = true ∧ F (inF x ys)
  | some (.ft ys), x, F => flat x = true ∧ ys.all flat = true ∧ F (inF x ys)
  | some c, x, F => kO (getD? c x) fun o => F o.isSome
  | none, _, _ => False
theorem x_in1 : inA v (.ref p) S R = kIn (S p) v fun b => R (.bl b) S := by
  simp only [inA]
  rcases S p with _ | c
  · rfl
  · cases c <;> simp only [kIn, kO_iff]
theorem kIn_lst {xs : List Val} {F : Bool → Prop} : kIn (some (.lst xs)) v F = (flat v = true ∧ xs.all flat = true ∧ F (inF v xs)) := rfl
theorem kIn_ft {xs : List Val} {F : Bool → Prop} : kIn (some (.ft xs)) v F = (flat v = true ∧ xs.all flat = true ∧ F (inF v xs)) := rfl
theorem kIn_dt {xs : List (List L2.Key × Val)} {F : Bool → Prop} : kIn (some (.dt xs)) v F = kO (getD? (.dt xs) v) fun o => F o.isSome := rfl
theorem kIn_dk {xs : List (L2.Key × Val)} {F : Bool → Prop} : kIn (some (.dk xs)) v F = kO (getD? (.dk xs) v) fun o => F o.isSome := rfl
theorem x_in2 : inA v (.tup vs) S R = (flat v = true ∧ vs.all flat = true ∧ R (.bl (inF v vs)) S) := rfl
theorem x_notin : notinA v w S R = inA v w S fun x S' => match x with
  | .bl b => R (.bl (!b)) S'
  | _ => False := rfl
theorem atI_nat {α : Type} {xs : List α} {i : Nat} : L2.atI xs (i : Int) = xs[i]? := by
  unfold L2.atI L2.ixN
  by_cases h : i < xs.length
  · have h' : (i : Int) < xs.length := by omega
    simp [h']
  · have h' : ¬(i : Int) < xs.length := by omega
    simp [h', List.getElem?_eq_none (Nat.le_of_not_lt h)]
theorem atI_0 {α : Type} {xs : List α} : L2.atI xs 0 = xs[0]? := atI_nat (i := 0)
theorem atI_1 {α : Type} {xs : List α} : L2.atI xs 1 = xs[1]? := atI_nat (i := 1)
theorem atI_2 {α : Type} {xs : List α} : L2.atI xs 2 = xs[2]? := atI_nat (i := 2)
theorem atI_3 {α : Type} {xs : List α} : L2.atI xs 3 = xs[3]? := atI_nat (i := 3)
theorem atI_4 {α : Type} {xs : List α} : L2.atI xs 4 = xs[4]? := atI_nat (i := 4)
theorem atI_neg {α : Type} {xs : List α} : L2.atI xs (-1) = xs.getLast? := by
  unfold L2.atI L2.ixN
  rcases xs with _ | ⟨x, xs⟩
  · rfl
  · rw [if_neg (by decide), if_pos (by simp only [List.length_cons]; omega)]
    have h : ((-1 : Int) + ((x :: xs).length : Nat)).toNat = (x :: xs).length - 1 := by simp only [List.length_cons]; omega
    simp only [Option.bind_some, h, List.getLast?_eq_getElem?]
theorem ixN_nat {n i : Nat} (h : i < n) : L2.ixN n (i : Int) = some i := by
  unfold L2.ixN
  have h' : (i : Int) < n := by omega
  simp [h']
theorem ixN_lit {n : Nat} : L2.ixN (n + 5) 0 = some 0 ∧ L2.ixN (n + 5) 1 = some 1 ∧ L2.ixN (n + 5) 2 = some 2 ∧ L2.ixN (n + 5) 3 = some 3 ∧ L2.ixN (n + 5) 4 = some 4 :=
  ⟨ixN_nat (i := 0) (by omega), ixN_nat (i := 1) (by omega), ixN_nat (i := 2) (by omega), ixN_nat (i := 3) (by omega), ixN_nat (i := 4) (by omega)⟩
theorem x_andV : aAndV a b E es S R = a E es S fun x S1 => match x with
  | .bl k => if k = true then b E es S1 R else R (.bl false) S1
  | _ => False := by
  unfold aAndV
  congr 1
  funext x S1
  cases x <;> try rfl
  rename_i k
  cases k <;> simp
theorem x_orV : aOrV a b E es S R = a E es S fun x S1 => match x with
  | .bl k => if k = true then R (.bl true) S1 else b E es S1 R
  | _ => False := by
  unfold aOrV
  congr 1
  funext x S1
  cases x <;> try rfl
  rename_i k
  cases k <;> simp
theorem x_notV : aNotV a E es S R = a E es S fun x S1 => match x with
  | .bl k => R (.bl (!k)) S1
  | _ => False := rfl
theorem x_chain {r r' : A2} {a b c : AE} : aChain r r' a b c E es S R = a E es S fun x S1 => b E es S1 fun y S2 => r x y S2 fun z S3 => match z with
  | .bl k => if k = true then c E es S3 fun u S4 => r' y u S4 R else R (.bl false) S3
  | _ => False := by
  unfold aChain
  congr 1
  funext x S1
  congr 1
  funext y S2
  congr 1
  funext z S3
  cases z <;> try rfl
  rename_i k
  cases k <;> simp
theorem x_isi : aIsi Ty a E es S R = a E es S fun x S1 => tyOk x S1 ∧ R (.bl (isI Ty x S1)) S1 := by
  unfold aIsi tyOk isI
  congr 1
  funext x S1
  cases tyV? x S1 <;> simp
theorem x_ite {α : Type} {b b' : Prop} [h : Decidable b] {x y : α} [h' : Decidable b'] (e : b = b') : (if b then x else y) = (if b' then x else y) := by
  cases e
  congr
end
theorem cut {t u : AS} {D : AEnds} {es : AEnv} {S : Store} (M : AEnv → Store → Prop) (tail : ∀ es S, M es S → u D es S) (hd : ∀ N : AEnv → Store → Prop, (∀ es S, M es S → N es S) → t { D with nx := N } es S) : sSeq t u D es S := hd (u D) tail
theorem cut2 {t u : AS} {D : AEnds} {es : AEnv} {S : Store} (M : AEnv → Store → Prop) (hd : ∀ N : AEnv → Store → Prop, (∀ es S, M es S → N es S) → t { D with nx := N } es S) (tail : ∀ es S, M es S → u D es S) : sSeq t u D es S := hd (u D) tail
theorem tup2 {i j : Nat} {E : AX} {v1 v2 : Val} {es : AEnv} {S : Store} {R : AEnv → Store → Prop} (h : R ((es.set i (some v1)).set j (some v2)) S) : tTupA 2 (tConsA (tName i) (tConsA (tName j) tNilA)) E (.tup [v1, v2]) es S R := ⟨rfl, rfl, h⟩
theorem tup3 {i j k : Nat} {E : AX} {v1 v2 v3 : Val} {es : AEnv} {S : Store} {R : AEnv → Store → Prop} (h : R (((es.set i (some v1)).set j (some v2)).set k (some v3)) S) : tTupA 3 (tConsA (tName i) (tConsA (tName j) (tConsA (tName k) tNilA))) E (.tup [v1, v2, v3]) es S R := ⟨rfl, rfl, h⟩
theorem hide {t : AS} {D : AEnds} {es : AEnv} {S : Store} (h : ∀ N : AEnv → Store → Prop, (∀ es S, D.nx es S → N es S) → t { D with nx := N } es S) : t D es S := h D.nx fun _ _ z => z
theorem ixN_0 {n : Nat} (h : 0 < n) : L2.ixN n 0 = some 0 := ixN_nat (i := 0) h
theorem ixN_1 {n : Nat} (h : 1 < n) : L2.ixN n 1 = some 1 := ixN_nat (i := 1) h
theorem ixN_2 {n : Nat} (h : 2 < n) : L2.ixN n 2 = some 2 := ixN_nat (i := 2) h
theorem ixN_3 {n : Nat} (h : 3 < n) : L2.ixN n 3 = some 3 := ixN_nat (i := 3) h
theorem ixN_4 {n : Nat} (h : 4 < n) : L2.ixN n 4 = some 4 := ixN_nat (i := 4) h
theorem ixN_51 : L2.ixN 5 1 = some 1 := rfl
theorem ixN_52 : L2.ixN 5 2 = some 2 := rfl
theorem ixN_53 : L2.ixN 5 3 = some 3 := rfl
theorem ixN_54 : L2.ixN 5 4 = some 4 := rfl
theorem pow1 {S : Store} {R : AK} {m k : Int} : powA (.int m) (.int k) S R = (L2.CPow m k ∧ R (.int (m ^ k.toNat)) S) := rfl
theorem atI_ge {α : Type} {xs : List α} {i : Int} (h : 0 ≤ i) : L2.atI xs i = xs[i.toNat]? := by
  obtain ⟨j, rfl⟩ := Int.eq_ofNat_of_zero_le h
  exact atI_nat
theorem ifD {p P Q : Prop} [Decidable p] (h : p → P) (k : ¬p → Q) : if decide p = true then P else Q := by
  by_cases q : p
  · rw [if_pos (decide_eq_true q)]; exact h q
  · rw [if_neg (by simpa using q)]; exact k q
theorem ifN {p P Q : Prop} [Decidable p] (h : ¬p → P) (k : p → Q) : if (!decide p) = true then P else Q := by
  by_cases q : p
  · rw [if_neg (by simpa using q)]; exact k q
  · rw [if_pos (by simpa using q)]; exact h q
theorem ifB {b : Bool} {P Q : Prop} (h : b = true → P) (k : b = false → Q) : if b = true then P else Q := by
  cases b
  · exact k rfl
  · exact h rfl
theorem ifBN {b : Bool} {P Q : Prop} (h : b = false → P) (k : b = true → Q) : if (!b) = true then P else Q := by
  cases b
  · exact h rfl
  · exact k rfl
theorem Ext.put {S S4 : Store} {p : Addr} {c : Cell} (h : Ext S S4) (n : S p = none) : Ext S (ups S4 p c) := fun a d e => by
  have : a ≠ p := ne_of_new e n
  rw [ups_ne this]
  exact h a d e
/-- what of the list at p, new ahead of S1, is known while a comprehension runs -/
theorem lc_fm {g : AG} {tt : AT} {te : AE} {vs : List Nat} {es : AEnv} {S1 : Store} {R : AK} {q : Seq} {p : Addr} (f : Val → Option Val) (hs : q.xs.length ≤ sizeLine) (hp : S1 p = none) (ok : ∀ S, Ext S1 S → q.ok S)
    (step : ∀ (i : Nat) (x : Val) (S : Store), q.xs[i]? = some x → Ext S1 S → ∀ (N : Store → Prop) (Y : Val → Store → Prop), (∀ y S4, f x = some y → Ext S S4 → Y y S4) → (∀ S4, f x = none → Ext S S4 → N S4) →
      g X0 x (awipe es vs) S fun es2 S2 => tt X0 es2 S2 fun b S3 => if b = true then te X0 es2 S3 Y else N S3)
    (fin : ∀ S, Ext S1 S → S p = some (.lst (q.xs.filterMap f)) → R (.ref p) S) :
    ∃ I : Nat → Store → Prop, I 0 (ups S1 p (.lst [])) ∧ ∀ i S, I i S → q.ok S ∧
      (∀ x, q.xs[i]? = some x → g X0 x (awipe es vs) S fun es2 S2 => tt X0 es2 S2 fun b S3 => if b = true then te X0 es2 S3 fun y S4 => ∃ acc, S4 p = some (.lst acc) ∧ acc.length < sizeLine ∧ I (i + 1) (ups S4 p (.lst (acc ++ [y]))) else I (i + 1) S3) ∧
      (q.xs.length ≤ i → R (.ref p) S) := by
  refine ⟨fun i S => Ext S1 S ∧ S p = some (.lst ((q.xs.take i).filterMap f)), ⟨.new hp, by rw [ups_same]; rfl⟩, fun i S ⟨e, h⟩ => ⟨ok S e, fun x hx => step i x S hx e _ _ (fun y S4 hy e4 => ?_) (fun S4 hy e4 => ?_), fun hi => fin S e (by rw [h, List.take_of_length_le hi])⟩⟩
  · have hlt : i < q.xs.length := (List.getElem?_eq_some_iff.mp hx).1
    have et : (q.xs.take (i + 1)).filterMap f = (q.xs.take i).filterMap f ++ [y] := by
      rw [List.take_add_one, hx, List.filterMap_append]
      simp [hy]
    refine ⟨_, e4 _ _ h, ?_, (e.trans e4).put hp, by rw [ups_same, et]⟩
    have h1 : ((q.xs.take i).filterMap f).length ≤ (q.xs.take i).length := List.length_filterMap_le _ _
    have h2 : (q.xs.take i).length ≤ i := List.length_take_le _ _
    omega
  · have et : (q.xs.take (i + 1)).filterMap f = (q.xs.take i).filterMap f := by
      rw [List.take_add_one, hx, List.filterMap_append]
      simp [hy]
    exact ⟨e.trans e4, by rw [et]; exact e4 _ _ h⟩
/-- a comprehension, what comes told by f -/
theorem lc_if {ai : AI} {g : AG} {tt : AT} {te : AE} {vs : List Nat} {E : AX} {es : AEnv} {S : Store} {R : AK} (f : Val → Option Val)
    (h : ∀ N : Seq → Store → Prop, (∀ q S1, q.xs.length ≤ sizeLine → (∀ S, Ext S1 S → q.ok S) →
      (∀ (i : Nat) (x : Val) (S : Store), q.xs[i]? = some x → Ext S1 S → ∀ (N : Store → Prop) (Y : Val → Store → Prop), (∀ y S4, f x = some y → Ext S S4 → Y y S4) → (∀ S4, f x = none → Ext S S4 → N S4) →
        g X0 x (awipe es vs) S fun es2 S2 => tt X0 es2 S2 fun b S3 => if b = true then te X0 es2 S3 Y else N S3) →
      (∀ p S, S1 p = none → Ext S1 S → S p = some (.lst (q.xs.filterMap f)) → R (.ref p) S) → N q S1) → ai E es S N) : aLc ai g tt te vs E es S R :=
  h _ fun _ _ hs ok step fin _ hp => lc_fm f hs hp ok step (fin _ · hp)
theorem lc_map {ai : AI} {g : AG} {te : AE} {vs : List Nat} {E : AX} {es : AEnv} {S : Store} {R : AK} (f : Val → Val)
    (h : ∀ N : Seq → Store → Prop, (∀ q S1, q.xs.length ≤ sizeLine → (∀ S, Ext S1 S → q.ok S) →
      (∀ (i : Nat) (x : Val) (S : Store), q.xs[i]? = some x → Ext S1 S → ∀ (Y : Val → Store → Prop), (∀ S4, Ext S S4 → Y (f x) S4) → g X0 x (awipe es vs) S fun es2 S2 => te X0 es2 S2 Y) →
      (∀ p S, S1 p = none → Ext S1 S → S p = some (.lst (q.xs.map f)) → R (.ref p) S) → N q S1) → ai E es S N) : aLc ai g aYes te vs E es S R :=
  h _ fun _ _ hs ok step fin _ hp => lc_fm (fun x => some (f x)) hs hp ok (fun i x S hx e N Y hY _ => step i x S hx e Y fun S4 e4 => hY _ _ rfl e4) fun S e h => fin _ S hp e (by rw [h, List.filterMap_eq_map'])
/-- a comprehension, what comes told by a relation -/
theorem lc_rel {ai : AI} {g : AG} {te : AE} {vs : List Nat} {E : AX} {es : AEnv} {S : Store} {R : AK} (P : Val → Val → Prop)
    (h : ∀ N : Seq → Store → Prop, (∀ q S1, q.xs.length ≤ sizeLine → (∀ S, Ext S1 S → q.ok S) →
      (∀ (i : Nat) (x : Val) (S : Store), q.xs[i]? = some x → Ext S1 S → ∀ (Y : Val → Store → Prop), (∀ y S4, P x y → Ext S S4 → Y y S4) → g X0 x (awipe es vs) S fun es2 S2 => te X0 es2 S2 Y) →
      (∀ p S ys, S1 p = none → Ext S1 S → S p = some (.lst ys) → ys.length = q.xs.length → (∀ (i : Nat) (x y : Val), q.xs[i]? = some x → ys[i]? = some y → P x y) → R (.ref p) S) → N q S1) → ai E es S N) : aLc ai g aYes te vs E es S R := by
  refine h _ fun q S1 hs ok step fin p hp => ?_
  refine ⟨fun i S => Ext S1 S ∧ ∃ acc, S p = some (.lst acc) ∧ acc.length = i ∧ i ≤ q.xs.length ∧ ∀ (k : Nat) (x y : Val), q.xs[k]? = some x → acc[k]? = some y → P x y, ⟨.new hp, [], ups_same, rfl, Nat.zero_le _, fun k x y _ h => by simp at h⟩, fun i S ⟨e, acc, h1, h2, h3, h4⟩ => ⟨ok S e, fun x hx => ?_, fun hi => ?_⟩⟩
  · have hlt : i < q.xs.length := (List.getElem?_eq_some_iff.mp hx).1
    refine step i x S hx e _ fun y S4 hy e4 => ?_
    refine ⟨acc, e4 _ _ h1, by omega, (e.trans e4).put hp, acc ++ [y], ups_same, by simp [h2], hlt, fun k a b ha hb => ?_⟩
    rcases Nat.lt_or_ge k acc.length with q1 | q1
    · rw [List.getElem?_append_left q1] at hb
      exact h4 k a b ha hb
    · rw [List.getElem?_append_right q1] at hb
      have hk : k - acc.length = 0 := by
        rcases Nat.eq_zero_or_pos (k - acc.length) with z | z
        · exact z
        · rw [List.getElem?_eq_none (by simp; omega)] at hb; cases hb
      rw [hk] at hb
      cases hb
      have : k = i := by omega
      subst this
      rw [hx] at ha
      cases ha
      exact hy
  · exact fin p S acc hp e h1 (by omega) h4
theorem drels_ints {S : Store} : ∀ ns : List Int, DRels S (ns.map .int) (ns.map PyData.int)
  | [] => .nil
  | n :: ns => .cons (.int n) (drels_ints ns)
theorem eqvAll_ints : ∀ ns ms : List Int, PyData.eqvAll (ns.map PyData.int) (ms.map PyData.int) = decide (ns = ms)
  | [], [] => by simp [PyData.eqvAll]
  | [], _ :: _ => by simp [PyData.eqvAll]
  | _ :: _, [] => by simp [PyData.eqvAll]
  | a :: ns, b :: ms => by
    simp only [List.map_cons, PyData.eqvAll, PyData.eqv, eqvAll_ints ns ms, List.cons.injEq]
    by_cases h : a = b <;> by_cases k : ns = ms <;> simp [h, k]
theorem lay_ints : ∀ ns : List Int, PyData.canLayAll0 (ns.map PyData.int) = true
  | [] => by simp [PyData.canLayAll0]
  | a :: ns => by simp [PyData.canLayAll0, PyData.canLay0, lay_ints ns]
theorem dep_ints : ∀ ns : List Int, PyData.depthAll (ns.map PyData.int) = 0
  | [] => by simp [PyData.depthAll]
  | a :: ns => by simp [PyData.depthAll, PyData.depth, dep_ints ns]
theorem shaped_ints (ns : List Int) : SeqAt.shaped (.list (ns.map PyData.int)) = true := by
  simp [SeqAt.shaped, PyData.canLay0, PyData.depth, lay_ints, dep_ints]
theorem ne_ints {p q : Addr} {S : Store} {R : AK} (ns ms : List Int) (hp : S p = some (.lst (ns.map .int))) (hq : S q = some (.lst (ms.map .int))) (h : R (.bl (!decide (ns = ms))) S) : neA (.ref p) (.ref q) S R := by
  simp only [neA, scalA]
  refine ⟨_, _, .lst (.inl hp) (drels_ints ns), .lst (.inl hq) (drels_ints ms), shaped_ints ns, shaped_ints ms, ?_⟩
  simp only [PyData.eqv, eqvAll_ints]
  exact h
theorem drels_strs {S : Store} : ∀ ns : List Str, DRels S (ns.map .str) (ns.map PyData.str)
  | [] => .nil
  | n :: ns => .cons (.str n) (drels_strs ns)
theorem eqvAll_strs : ∀ ns ms : List Str, PyData.eqvAll (ns.map PyData.str) (ms.map PyData.str) = decide (ns = ms)
  | [], [] => by simp [PyData.eqvAll]
  | [], _ :: _ => by simp [PyData.eqvAll]
  | _ :: _, [] => by simp [PyData.eqvAll]
  | a :: ns, b :: ms => by
    simp only [List.map_cons, PyData.eqvAll, PyData.eqv, eqvAll_strs ns ms, List.cons.injEq]
    by_cases h : a = b <;> by_cases k : ns = ms <;> simp [h, k]
theorem ne_strs {p q : Addr} {S : Store} {R : AK} (ns ms : List Str) (h1 : SeqAt.shaped (.list (ns.map PyData.str)) = true) (h2 : SeqAt.shaped (.list (ms.map PyData.str)) = true) (hp : S p = some (.lst (ns.map .str))) (hq : S q = some (.lst (ms.map .str))) (h : R (.bl (!decide (ns = ms))) S) : neA (.ref p) (.ref q) S R := by
  simp only [neA, scalA]
  refine ⟨_, _, .lst (.inl hp) (drels_strs ns), .lst (.inl hq) (drels_strs ms), h1, h2, ?_⟩
  simp only [PyData.eqv, eqvAll_strs]
  exact h
theorem cutA_take {xs : List Val} {k : Nat} : cutA xs none (some (k : Int)) = xs.take k := by
  unfold cutA
  rw [HT.sIx_nat, HT.sIx_none, List.drop_zero, Nat.sub_zero]
  rcases Nat.le_total k xs.length with h | h
  · rw [Nat.min_eq_left h]
  · rw [Nat.min_eq_right h, List.take_of_length_le (Nat.le_refl _), List.take_of_length_le h]
theorem cutA_drop {xs : List Val} {k : Nat} : cutA xs (some (k : Int)) none = xs.drop k := by
  unfold cutA
  rw [HT.sIx_nat, HT.sIx_none]
  rcases Nat.le_total k xs.length with h | h
  · rw [Nat.min_eq_left h, List.take_of_length_le (by simp)]
  · rw [Nat.min_eq_right h, List.drop_of_length_le (Nat.le_refl _), List.drop_of_length_le h, List.take_nil]
theorem Ext.none {S S' : Store} {a : Addr} (e : Ext S S') (h : S' a = none) : S a = none := by
  cases q : S a with
  | none => rfl
  | some c => rw [e _ _ q] at h; cases h
theorem ups_ups {S : Store} {p : Addr} {c d : Cell} : ups (ups S p c) p d = ups S p d := by
  funext a
  by_cases h : a = p
  · subst h; rw [ups_same, ups_same]
  · rw [ups_ne h, ups_ne h, ups_ne h]
theorem rgI_at {lo hi : Int} {i : Nat} {x : Val} (h : (rgI lo hi)[i]? = some x) : x = .int (lo + i) ∧ lo + i < hi := by
  unfold rgI at h
  rw [List.getElem?_map] at h
  rcases Nat.lt_or_ge i (hi - lo).toNat with q | q
  · rw [List.getElem?_range q] at h
    cases h
    exact ⟨rfl, by omega⟩
  · rw [List.getElem?_eq_none (by simpa using q)] at h
    cases h
theorem rgI_len {lo hi : Int} : (rgI lo hi).length = (hi - lo).toNat := by simp [rgI]
def kInts : Val → Val → Store → (Int → Int → Store → Prop) → Prop
  | .int i, .int j, S, N => N i j S
  | _, _, _, _ => False
theorem x_kInts {i j : Int} {S : Store} {N : Int → Int → Store → Prop} : kInts (.int i) (.int j) S N = N i j S := rfl
/-- for x in range(a, b) -/
theorem for_r2 {a b : AE} {k : Nat} {body : AS} {D : AEnds} {es : AEnv} {S : Store}
    (h : ∀ N : Int → Int → Store → Prop, (∀ (lo hi : Int) (S1 : Store), (-(2 ^ 62) ≤ lo ∧ lo < 2 ^ 62 ∧ -(2 ^ 62) ≤ hi ∧ hi < 2 ^ 62) → (∃ I : Nat → AEnv → Store → Prop, I 0 es S1 ∧
      (∀ (i : Nat) (es : AEnv) (S : Store), lo + i < hi → I i es S → body { D with nx := I (i + 1), ct := I (i + 1), bk := D.nx } (es.set k (some (.int (lo + i)))) S) ∧ ∀ es S, I (hi - lo).toNat es S → D.nx es S) → N lo hi S1) →
      a (D.xe es) es S fun x S1 => b (D.xe es) es S1 fun y S2 => kInts x y S2 N) : sFor (iR2 a b) (tName k) body D es S := by
  have key := h (fun lo hi S1 => kR2 (.int lo) (.int hi) S1 fun q S1 => ∃ I : Nat → AEnv → Store → Prop, I 0 es S1 ∧ ∀ i es S, I i es S → q.ok S ∧
    (∀ x, q.xs[i]? = some x → tName k (fun _ _ => False) x es S fun es2 S2 => body { D with nx := I (i + 1), ct := I (i + 1), bk := D.nx } es2 S2) ∧ (q.xs.length ≤ i → D.nx es S)) (fun lo hi S1 hb ⟨I, h0, h1, h2⟩ => by
      refine ⟨hb, fun i es S => i ≤ (hi - lo).toNat ∧ I i es S, ⟨Nat.zero_le _, h0⟩, fun i es S ⟨hi', hI⟩ => ⟨trivial, fun x hx => ?_, fun hle => ?_⟩⟩
      · obtain ⟨rfl, hlt⟩ := rgI_at hx
        have := h1 i es S hlt hI
        show body { D with nx := fun es S => i + 1 ≤ (hi - lo).toNat ∧ I (i + 1) es S, ct := fun es S => i + 1 ≤ (hi - lo).toNat ∧ I (i + 1) es S, bk := D.nx } _ _
        have e : (fun es S => i + 1 ≤ (hi - lo).toNat ∧ I (i + 1) es S) = I (i + 1) := by
          funext es S
          exact propext ⟨fun z => z.2, fun z => ⟨by omega, z⟩⟩
        rw [e]
        exact this
      · rw [rgI_len] at hle
        exact h2 es S (by rw [show (hi - lo).toNat = i by omega]; exact hI))
  show iR2 a b (D.xe es) es S _
  rw [x_rng2]
  have e : (fun x S1 => b (D.xe es) es S1 fun y S2 => kInts x y S2 fun lo hi S1 => kR2 (.int lo) (.int hi) S1 fun q S1 => ∃ I : Nat → AEnv → Store → Prop, I 0 es S1 ∧ ∀ i es S, I i es S → q.ok S ∧
    (∀ x, q.xs[i]? = some x → tName k (fun _ _ => False) x es S fun es2 S2 => body { D with nx := I (i + 1), ct := I (i + 1), bk := D.nx } es2 S2) ∧ (q.xs.length ≤ i → D.nx es S)) = fun x S1 => b (D.xe es) es S1 fun y S2 => kR2 x y S2 fun q S1 => ∃ I : Nat → AEnv → Store → Prop, I 0 es S1 ∧ ∀ i es S, I i es S → q.ok S ∧
    (∀ x, q.xs[i]? = some x → tName k (fun _ _ => False) x es S fun es2 S2 => body { D with nx := I (i + 1), ct := I (i + 1), bk := D.nx } es2 S2) ∧ (q.xs.length ≤ i → D.nx es S) := by
    funext x S1
    congr 1
    funext y S2
    cases x <;> cases y <;> rfl
  rw [← e]
  exact key
/-- for x in range(b) -/
theorem for_r1 {b : AE} {k : Nat} {body : AS} {D : AEnds} {es : AEnv} {S : Store}
    (h : ∀ N : Int → Store → Prop, (∀ (hi : Int) (S1 : Store), (-(2 ^ 62) ≤ hi ∧ hi < 2 ^ 62) → (∃ I : Nat → AEnv → Store → Prop, I 0 es S1 ∧
      (∀ (i : Nat) (es : AEnv) (S : Store), (i : Int) < hi → I i es S → body { D with nx := I (i + 1), ct := I (i + 1), bk := D.nx } (es.set k (some (.int i))) S) ∧ ∀ es S, I hi.toNat es S → D.nx es S) → N hi S1) →
      b (D.xe es) es S fun y S2 => match y with
        | .int j => N j S2
        | _ => False) : sFor (iR1 b) (tName k) body D es S := by
  have key := h (fun hi S1 => -(2 ^ 62) ≤ hi ∧ hi < 2 ^ 62 ∧ ∃ I : Nat → AEnv → Store → Prop, I 0 es S1 ∧ ∀ i es S, I i es S → True ∧
    (∀ x, (rgI 0 hi)[i]? = some x → tName k (fun _ _ => False) x es S fun es2 S2 => body { D with nx := I (i + 1), ct := I (i + 1), bk := D.nx } es2 S2) ∧ ((rgI 0 hi).length ≤ i → D.nx es S)) (fun hi S1 hb ⟨I, h0, h1, h2⟩ => by
      refine ⟨hb.1, hb.2, fun i es S => i ≤ hi.toNat ∧ I i es S, ⟨Nat.zero_le _, h0⟩, fun i es S ⟨hi', hI⟩ => ⟨trivial, fun x hx => ?_, fun hle => ?_⟩⟩
      · obtain ⟨rfl, hlt⟩ := rgI_at hx
        have := h1 i es S (by omega) hI
        show body { D with nx := fun es S => i + 1 ≤ hi.toNat ∧ I (i + 1) es S, ct := fun es S => i + 1 ≤ hi.toNat ∧ I (i + 1) es S, bk := D.nx } (es.set k (some (.int (0 + (i : Int))))) _
        rw [Int.zero_add]
        have e : (fun es S => i + 1 ≤ hi.toNat ∧ I (i + 1) es S) = I (i + 1) := by
          funext es S
          exact propext ⟨fun z => z.2, fun z => ⟨by omega, z⟩⟩
        rw [e]
        exact this
      · rw [rgI_len] at hle
        exact h2 es S (by rw [show hi.toNat = i by omega]; exact hI))
  exact key
/-- for g in a list | a tuple -/
theorem for_sq {a : AE} {g : AG} {body : AS} {D : AEnds} {es : AEnv} {S : Store}
    (h : ∀ N : Seq → Store → Prop, (∀ (q : Seq) (S1 : Store), (∃ I : Nat → AEnv → Store → Prop, I 0 es S1 ∧ (∀ i es S, I i es S → q.ok S) ∧
      (∀ (i : Nat) (x : Val) (es : AEnv) (S : Store), q.xs[i]? = some x → I i es S → g (fun _ _ => False) x es S fun es2 S2 => body { D with nx := I (i + 1), ct := I (i + 1), bk := D.nx } es2 S2) ∧ ∀ es S, I q.xs.length es S → D.nx es S) → N q S1) →
      a (D.xe es) es S fun v S1 => kSq v S1 N) : sFor (iSeq a) g body D es S := by
  show iSeq a (D.xe es) es S _
  rw [x_iseq]
  refine h _ fun q S1 ⟨I, h0, hok, h1, h2⟩ => ⟨fun i es S => i ≤ q.xs.length ∧ I i es S, ⟨Nat.zero_le _, h0⟩, fun i es S ⟨hi', hI⟩ => ⟨hok i es S hI, fun x hx => ?_, fun hle => ?_⟩⟩
  · have := h1 i x es S hx hI
    have hlt : i < q.xs.length := (List.getElem?_eq_some_iff.mp hx).1
    have e : (fun es S => i + 1 ≤ q.xs.length ∧ I (i + 1) es S) = I (i + 1) := by
      funext es S
      exact propext ⟨fun z => z.2, fun z => ⟨by omega, z⟩⟩
    simp only [e]
    exact this
  · exact h2 es S (by rw [show q.xs.length = i by omega]; exact hI)
theorem x_gd2 {kvs : List (List L2.Key × Val)} {a b : Int} : getD? (.dt kvs) (.tup [.int a, .int b]) = some (valA kvs [.inl a, .inl b]) := rfl
theorem x_pd2 {kvs : List (List L2.Key × Val)} {a b : Int} {v : Val} : putD? (.dt kvs) (.tup [.int a, .int b]) v = some (.dt (putA kvs [.inl a, .inl b] v)) := rfl
theorem x_ld {kvs : List (List L2.Key × Val)} : lenD (.dt kvs) = kvs.length := rfl
theorem x_ld2 {kvs : List (L2.Key × Val)} : lenD (.dk kvs) = kvs.length := rfl
end A3
local macro_rules | `(tactic| simp! only [$ts,*]) => `(tactic| simp only [A3.x_seq, A3.x_next, A3.x_brk, A3.x_cont, A3.x_set, A3.x_ret, A3.x_retN, A3.x_drop, A3.x_if, A3.x_asg, A3.x_par, A3.x_par3, A3.x_tupF, A3.x_bmF, A3.x_raise0, A3.x_xe, A3.x_var, A3.x_c, A3.x_op, A3.x_test, A3.x_yes, A3.x_and, A3.x_or, A3.x_not, A3.x_ifE, A3.x_nil, A3.x_cons, A3.x_tup, A3.x_lst, A3.x_call, A3.x_cb, A3.x_bm, A3.x_bm0, A3.x_name, A3.x_tnil, A3.x_dk, A3.x_dt, A3.x_ttup, A3.x_tcons, A3.x_neg, A3.x_sl, A3.x_none, A3.x_some, A3.x_aug, A3.x_add1, A3.x_add2, A3.x_add3, A3.x_iadd1, A3.x_sub1, A3.x_mul1, A3.x_fdiv1, A3.x_mod1, A3.x_lt1, A3.x_le1, A3.x_gt1, A3.x_ge1, A3.x_eq1, A3.x_eq2, A3.x_eq3, A3.x_ne1, A3.x_ne2, A3.x_ne3, A3.x_is1, A3.x_isn1, A3.x_ix1, A3.x_ix2, A3.x_abs, A3.x_int1, A3.x_int2, A3.x_max2, A3.x_min2, A3.x_len1, A3.x_len2, A3.x_andV, A3.x_orV, A3.x_notV, A3.x_chain, A3.x_isi, A3.x_ix3, A3.x_dg, A3.x_app, A3.x_ext1, A3.x_ext2, A3.x_pop0, A3.x_rng1, A3.x_rng2, A3.x_kR2, A3.x_kInts, A3.x_iseq, A3.x_kSqT, A3.x_kSqL, A3.x_dput, A3.x_kPut, A3.x_sub, A3.x_kSub, A3.x_gd2, A3.x_pd2, A3.x_ld, A3.x_ld2, A3.x_slA, A3.x_kSl1, A3.x_kSl2, A3.x_kSl3, A3.x_rev, A3.x_kRev, A3.x_len3, A3.kLen_lst, A3.kLen_rd, A3.kLen_dt, A3.kLen_dk, A3.x_ty, A3.kTy_lst, A3.kTy_rd, A3.x_tyS, A3.x_in1, A3.x_in2, A3.kIn_lst, A3.kIn_ft, A3.kIn_dt, A3.kIn_dk, A3.x_notin, A3.kO_some, A3.kL_lst, A3.kL_rd, A3.kW_lst, A3.atI_0, A3.atI_1, A3.atI_2, A3.atI_3, A3.atI_4, A3.atI_neg, A3.ups_same, A3.ups_ne, ne_eq, not_false_eq_true, not_true_eq_false, A3.pow1, A3.ixN_51, A3.ixN_52, A3.ixN_53, A3.ixN_54, Bool.false_eq_true, Bool.not_true, Bool.not_false, if_true, if_false, A3.astart, List.map_cons, List.map_nil, List.length_cons, List.length_nil, List.replicate_succ, List.replicate_zero, List.cons_append, List.nil_append, List.append_nil, List.getElem?_cons_zero, List.getElem?_cons_succ, List.set_cons_zero, List.set_cons_succ, A3.awipe, Nat.zero_add, Nat.reduceAdd, Nat.reduceSub, $ts,*])
local macro_rules | `(tactic| dsimp! only [$ts,*]) => `(tactic| simp only [A3.x_tupF, A3.x_bmF, A3.x_xe, A3.x_var, A3.x_c, A3.x_op, A3.x_test, A3.x_yes, A3.x_and, A3.x_or, A3.x_not, A3.x_ifE, A3.x_nil, A3.x_cons, A3.x_tup, A3.x_lst, A3.x_call, A3.x_cb, A3.x_bm, A3.x_bm0, A3.x_name, A3.x_tnil, A3.x_dk, A3.x_dt, A3.x_ttup, A3.x_tcons, A3.x_neg, A3.x_sl, A3.x_none, A3.x_some, A3.x_add1, A3.x_add2, A3.x_add3, A3.x_iadd1, A3.x_sub1, A3.x_mul1, A3.x_fdiv1, A3.x_mod1, A3.x_lt1, A3.x_le1, A3.x_gt1, A3.x_ge1, A3.x_eq1, A3.x_eq2, A3.x_eq3, A3.x_ne1, A3.x_ne2, A3.x_ne3, A3.x_is1, A3.x_isn1, A3.x_ix1, A3.x_ix2, A3.x_abs, A3.x_int1, A3.x_int2, A3.x_max2, A3.x_min2, A3.x_len1, A3.x_len2, A3.x_andV, A3.x_orV, A3.x_notV, A3.x_chain, A3.x_isi, A3.x_ix3, A3.x_dg, A3.x_app, A3.x_ext1, A3.x_ext2, A3.x_pop0, A3.x_rng1, A3.x_rng2, A3.x_kR2, A3.x_kInts, A3.x_iseq, A3.x_kSqT, A3.x_kSqL, A3.x_kPut, A3.x_kSub, A3.x_gd2, A3.x_pd2, A3.x_ld, A3.x_ld2, A3.x_slA, A3.x_kSl1, A3.x_kSl2, A3.x_kSl3, A3.x_rev, A3.x_kRev, A3.x_len3, A3.kLen_lst, A3.kLen_rd, A3.kLen_dt, A3.kLen_dk, A3.x_ty, A3.kTy_lst, A3.kTy_rd, A3.x_tyS, A3.x_in1, A3.x_in2, A3.kIn_lst, A3.kIn_ft, A3.kIn_dt, A3.kIn_dk, A3.x_notin, A3.kO_some, A3.kL_lst, A3.kL_rd, A3.kW_lst, A3.atI_0, A3.atI_1, A3.atI_2, A3.atI_3, A3.atI_4, A3.atI_neg, A3.ups_same, A3.ups_ne, ne_eq, not_false_eq_true, not_true_eq_false, A3.pow1, A3.ixN_51, A3.ixN_52, A3.ixN_53, A3.ixN_54, Bool.false_eq_true, Bool.not_true, Bool.not_false, if_true, if_false, A3.astart, List.map_cons, List.map_nil, List.length_cons, List.length_nil, List.replicate_succ, List.replicate_zero, List.cons_append, List.nil_append, List.append_nil, List.getElem?_cons_zero, List.getElem?_cons_succ, List.set_cons_zero, List.set_cons_succ, A3.awipe, Nat.zero_add, Nat.reduceAdd, Nat.reduceSub, $ts,*])

set_option Elab.async false
set_option linter.all false
set_option maxRecDepth 100000
set_option maxHeartbeats 1000000
set_option autoImplicit false
namespace A3
open PySem
/-! ### loops unrolled -/
/-- at most so many more turns of a while -/
def wl (c : AT) (body : AS) (D : AEnds) : Nat → AEnv → Store → Prop
  | 0, _, _ => False
  | n + 1, es, S => wl c body D n es S ∨ c (D.xe es) es S fun b S1 => if b = true then body { D with nx := wl c body D n, ct := wl c body D n, bk := D.nx } es S1 else D.nx es S1
theorem wl_iff {c : AT} {body : AS} {D : AEnds} (n : Nat) : wl c body D n = fun es S => ∃ m, m < n ∧ c (D.xe es) es S fun b S1 => if b = true then body { D with nx := wl c body D m, ct := wl c body D m, bk := D.nx } es S1 else D.nx es S1 := by
  funext es S
  induction n with
  | zero => exact propext ⟨fun h => h.elim, fun ⟨m, h, _⟩ => by omega⟩
  | succ n ih =>
    refine propext ⟨fun h => ?_, fun ⟨m, h1, h2⟩ => ?_⟩
    · rcases h with h | h
      · rw [ih] at h
        obtain ⟨m, h1, h2⟩ := h
        exact ⟨m, by omega, h2⟩
      · exact ⟨n, by omega, h⟩
    · by_cases e : m = n
      · subst e
        exact .inr h2
      · left
        rw [ih]
        exact ⟨m, by omega, h2⟩
theorem while_wl {c : AT} {body : AS} {D : AEnds} {es : AEnv} {S : Store} (n : Nat) (h : wl c body D n es S) : sWhile c body D es S := by
  rw [wl_iff] at h
  obtain ⟨m0, _, h0⟩ := h
  refine ⟨fun m es S => c (D.xe es) es S fun b S1 => if b = true then body { D with nx := wl c body D m, ct := wl c body D m, bk := D.nx } es S1 else D.nx es S1, ⟨m0, h0⟩, fun m es S h => ?_⟩
  rw [← wl_iff]
  exact h
theorem wl_step {c : AT} {body : AS} {D : AEnds} {es : AEnv} {S : Store} {n : Nat} (h : c (D.xe es) es S fun b S1 => if b = true then body { D with nx := wl c body D n, ct := wl c body D n, bk := D.nx } es S1 else D.nx es S1) : wl c body D (n + 1) es S := .inr h
/-- what is gone through, item by item -/
def fl (g : AG) (B : (AEnv → Store → Prop) → AEnv → Store → Prop) (ok : Store → Prop) : List Val → (AEnv → Store → Prop) → AEnv → Store → Prop
  | [], N => N
  | x :: xs, N => fun es S => ok S ∧ g (fun _ _ => False) x es S fun es2 S2 => B (fl g B ok xs N) es2 S2
theorem fl_app {g : AG} {B : (AEnv → Store → Prop) → AEnv → Store → Prop} {ok : Store → Prop} {N : AEnv → Store → Prop} (xs ys : List Val) : fl g B ok (xs ++ ys) N = fl g B ok xs (fl g B ok ys N) := by
  induction xs with
  | nil => rfl
  | cons x xs ih => simp only [List.cons_append, fl, ih]
theorem fl_cons {g : AG} {B : (AEnv → Store → Prop) → AEnv → Store → Prop} {ok : Store → Prop} {N : AEnv → Store → Prop} {x : Val} {xs : List Val} {es : AEnv} {S : Store} : fl g B ok (x :: xs) N es S = (ok S ∧ g (fun _ _ => False) x es S fun es2 S2 => B (fl g B ok xs N) es2 S2) := rfl
theorem fl_nil {g : AG} {B : (AEnv → Store → Prop) → AEnv → Store → Prop} {ok : Store → Prop} {N : AEnv → Store → Prop} {es : AEnv} {S : Store} : fl g B ok [] N es S = N es S := rfl
theorem fl_I {g : AG} {body : AS} {D : AEnds} {es : AEnv} {S1 : Store} {q : Seq} (h1 : fl g (fun N => body { D with nx := N, ct := N, bk := D.nx }) q.ok q.xs (fun es S => q.ok S ∧ D.nx es S) es S1) :
    ∃ I : Nat → AEnv → Store → Prop, I 0 es S1 ∧ ∀ i es S, I i es S → q.ok S ∧
      (∀ x, q.xs[i]? = some x → g (fun _ _ => False) x es S fun es2 S2 => body { D with nx := I (i + 1), ct := I (i + 1), bk := D.nx } es2 S2) ∧ (q.xs.length ≤ i → D.nx es S) := by
  refine ⟨fun i => fl g (fun N => body { D with nx := N, ct := N, bk := D.nx }) q.ok (q.xs.drop i) (fun es S => q.ok S ∧ D.nx es S), h1, fun i es S hI => ?_⟩
  rcases Nat.lt_or_ge i q.xs.length with hi | hi
  · have e : q.xs.drop i = q.xs[i] :: q.xs.drop (i + 1) := List.drop_eq_getElem_cons hi
    simp only [e] at hI
    obtain ⟨h1, h2⟩ := hI
    refine ⟨h1, ?_, fun h => by omega⟩
    intro x hx
    rw [List.getElem?_eq_getElem hi] at hx
    cases hx
    exact h2
  · simp only [List.drop_of_length_le hi] at hI
    obtain ⟨h1, h2⟩ := hI
    refine ⟨h1, ?_, fun _ => h2⟩
    intro x hx
    rw [List.getElem?_eq_none hi] at hx
    cases hx
/-- for g in a list | a tuple, item by item; the value's own reading is known -/
theorem for_sqL {a : AE} {g : AG} {body : AS} {D : AEnds} {es : AEnv} {S : Store}
    (h : ∀ N : Seq → Store → Prop, (∀ q S1, fl g (fun N => body { D with nx := N, ct := N, bk := D.nx }) q.ok q.xs (fun es S => q.ok S ∧ D.nx es S) es S1 → N q S1) → a (D.xe es) es S fun v S1 => kSq v S1 N) : sFor (iSeq a) g body D es S := by
  show iSeq a (D.xe es) es S _
  rw [x_iseq]
  exact h _ fun q S1 h1 => fl_I h1
/-- what enumerate goes through -/
def kEn : Val → Store → (Seq → Store → Prop) → Prop
  | .tup xs, S, RQ => RQ ⟨enI 0 xs, fun _ => True⟩ S
  | .ref p, S, RQ => kL (S p) fun xs => RQ ⟨enI 0 xs, fun S => S p = some (.lst xs) ∨ S p = some (.rd xs)⟩ S
  | _, _, _ => False
theorem x_ienum {a : AE} {E : AX} {es : AEnv} {S : Store} {RQ : Seq → Store → Prop} : iEnumA a E es S RQ = a E es S fun v S1 => kEn v S1 RQ := by
  unfold iEnumA
  congr 1
  funext v S1
  cases v <;> simp only [kEn, kL_iff]
theorem x_kEnT {vs : List Val} {S : Store} {RQ : Seq → Store → Prop} : kEn (.tup vs) S RQ = RQ ⟨enI 0 vs, fun _ => True⟩ S := rfl
theorem x_kEnL {p : Addr} {S : Store} {RQ : Seq → Store → Prop} : kEn (.ref p) S RQ = kL (S p) fun xs => RQ ⟨enI 0 xs, fun S => S p = some (.lst xs) ∨ S p = some (.rd xs)⟩ S := rfl
theorem for_enL {a : AE} {g : AG} {body : AS} {D : AEnds} {es : AEnv} {S : Store}
    (h : ∀ N : Seq → Store → Prop, (∀ q S1, fl g (fun N => body { D with nx := N, ct := N, bk := D.nx }) q.ok q.xs (fun es S => q.ok S ∧ D.nx es S) es S1 → N q S1) → a (D.xe es) es S fun v S1 => kEn v S1 N) : sFor (iEnumA a) g body D es S := by
  show iEnumA a (D.xe es) es S _
  rw [x_ienum]
  exact h _ fun q S1 h1 => fl_I h1
end A3
namespace A3
open PySem
/-- for g in a list | a tuple, by what is left -/
theorem for_rest {a : AE} {g : AG} {body : AS} {D : AEnds} {es : AEnv} {S : Store}
    (h : ∀ N : Seq → Store → Prop, (∀ q S1, (∃ I : List Val → AEnv → Store → Prop, I q.xs es S1 ∧ (∀ l es S, I l es S → q.ok S) ∧ (∀ x xs es S, I (x :: xs) es S → g (fun _ _ => False) x es S fun es2 S2 => body { D with nx := I xs, ct := I xs, bk := D.nx } es2 S2) ∧ ∀ es S, I [] es S → D.nx es S) → N q S1) → a (D.xe es) es S fun v S1 => kSq v S1 N) : sFor (iSeq a) g body D es S := by
  show iSeq a (D.xe es) es S _
  rw [x_iseq]
  refine h _ fun q S1 ⟨I, h0, h1, h2, h3⟩ => ⟨fun i => I (q.xs.drop i), h0, fun i es S hI => ⟨h1 _ _ _ hI, ?_, fun hi => ?_⟩⟩
  · intro x hx
    have hi := (List.getElem?_eq_some_iff.mp hx).1
    have e : q.xs.drop i = x :: q.xs.drop (i + 1) := by
      rw [List.drop_eq_getElem_cons hi, (List.getElem?_eq_some_iff.mp hx).2]
    simp only [e] at hI
    exact h2 _ _ _ _ hI
  · simp only [List.drop_of_length_le hi] at hI
    exact h3 _ _ hI
/-- one statement; what comes next is hidden meanwhile -/
theorem stp {t u : AS} {D : AEnds} {es : AEnv} {S : Store} (h : ∀ N : AEnv → Store → Prop, (∀ es S, u D es S → N es S) → t { D with nx := N } es S) : sSeq t u D es S := h (u D) fun _ _ z => z
/-- for g in range(a, b, -1) -/
theorem for_r3 {a b c : AE} {g : AG} {body : AS} {D : AEnds} {es : AEnv} {S : Store}
    (h : ∀ N : Seq → Store → Prop, (∀ (q : Seq) (S1 : Store), (∃ I : Nat → AEnv → Store → Prop, I 0 es S1 ∧ (∀ i es S, I i es S → q.ok S) ∧
      (∀ (i : Nat) (x : Val) (es : AEnv) (S : Store), q.xs[i]? = some x → I i es S → g (fun _ _ => False) x es S fun es2 S2 => body { D with nx := I (i + 1), ct := I (i + 1), bk := D.nx } es2 S2) ∧ ∀ es S, I q.xs.length es S → D.nx es S) → N q S1) →
      a (D.xe es) es S fun x S1 => b (D.xe es) es S1 fun y S2 => c (D.xe es) es S2 fun z S3 => kR3 x y z S3 N) : sFor (iR3 a b c) g body D es S := by
  show iR3 a b c (D.xe es) es S _
  unfold iR3
  refine h _ fun q S1 ⟨I, h0, hok, h1, h2⟩ => ⟨fun i es S => i ≤ q.xs.length ∧ I i es S, ⟨Nat.zero_le _, h0⟩, fun i es S ⟨hi', hI⟩ => ⟨hok i es S hI, fun x hx => ?_, fun hle => ?_⟩⟩
  · have := h1 i x es S hx hI
    have hlt : i < q.xs.length := (List.getElem?_eq_some_iff.mp hx).1
    have e : (fun es S => i + 1 ≤ q.xs.length ∧ I (i + 1) es S) = I (i + 1) := by
      funext es S
      exact propext ⟨fun z => z.2, fun z => ⟨by omega, z⟩⟩
    simp only [e]
    exact this
  · exact h2 es S (by rw [show q.xs.length = i by omega]; exact hI)
end A3

set_option Elab.async false
set_option linter.all false
set_option maxRecDepth 100000
set_option maxHeartbeats 1000000
set_option exponentiation.threshold 1000
namespace G
open PySem A3
abbrev D0 (R : AK) (RE : AX) : AEnds := { nx := fun _ S' => R .non S', rt := R, ex := fun x _ S' => RE x S' }
def isInt : Val → Bool
  | .int _ => true
  | _ => false
def sp_is_integer (K : PySem.W.Frag) : ASp := fun va S R _ => ∃ x, va = [x] ∧ tyOk x S ∧ R (.bl (isInt x)) S
theorem isInt_ref {p : Addr} {S : Store} (t : tyOk (.ref p) S) (Ty : String) (h : Ty ≠ "list") (h2 : Ty ≠ "dict") : isI Ty (.ref p) S = false := by
  unfold tyOk at t
  unfold isI
  cases q : tyV? (.ref p) S with
  | none => simp [q] at t
  | some k => rcases ty_ref q with rfl | rfl <;> simp [subTy, Ne.symm h, Ne.symm h2]
theorem pf_is_integer {K : PySem.W.Frag} : ∀ va S R RE, sp_is_integer K va S R RE → rd_is_integer K (D0 R RE) (astart N_is_integer va) S := by
  rintro va S R RE ⟨x, rfl, t, r⟩
  unfold rd_is_integer
  simp! only []
  refine ⟨t, ifB (fun h => ⟨t, ?_⟩) fun h => ?_⟩
  · cases x with
    | ref p => rw [isInt_ref t "int" (by decide) (by decide)] at h; cases h
    | int i => exact r
    | bl b => exact r
    | _ => cases h
  · cases x with
    | int i => cases h
    | _ => exact r
end G

set_option Elab.async false
set_option linter.all false
set_option maxRecDepth 100000
set_option maxHeartbeats 1000000
set_option exponentiation.threshold 1000
namespace G
open PySem A3
/-- the n-th letter -/
def letter (i : Nat) : Str := ⟨#[97 + i]⟩
theorem letter_at : ∀ i : Nat, i < 26 → L2.atI ("abcdefghijklmnopqrstuvwxyz" : Str).cps.toList (i : Int) = some (97 + i) := by decide +kernel
def nameGo (left : Nat) (found : Str) : Str := if h : left = 0 then found else nameGo ((left - 1) / 26) (letter ((left - 1) % 26) ++ found)
termination_by left
decreasing_by omega
def nameAt (n : Nat) : Str := nameGo (n + 1) ""
def sp_name_at (K : PySem.W.Frag) : ASp := fun va S R _ => ∃ n : Nat, va = [.int n] ∧ n < 2 ^ 62 ∧ R (.str (nameAt n)) S
theorem pf_name_at {K : PySem.W.Frag} : ∀ va S R RE, sp_name_at K va S R RE → rd_name_at K (D0 R RE) (astart N_name_at va) S := by
  rintro va S R RE ⟨n, rfl, hn, r⟩
  unfold rd_name_at
  simp! only []
  refine ⟨fun m es S1 => S1 = S ∧ ∃ found, es = [some (.int n), some (.str found), some (.int m)] ∧ nameGo m found = nameAt n ∧ m * 2 ^ found.length ≤ 2 ^ 63, ⟨n + 1, rfl, _, rfl, rfl, ?_⟩, ?_⟩
  · have : ("" : Str).length = 0 := rfl
    rw [this]; omega
  · rintro m es S1 ⟨rfl, found, rfl, e, hb⟩
    simp! only []
    refine ifD (fun hm => ?_) (fun hm => ?_)
    · have hl : found.length ≤ 63 := by
        have h1 : 2 ^ found.length ≤ 2 ^ 63 := Nat.le_trans (Nat.le_mul_of_pos_left _ (by omega)) hb
        exact (Nat.pow_le_pow_iff_right (by decide)).mp h1
      obtain ⟨j, rfl⟩ : ∃ j, m = j + 1 := ⟨m - 1, by omega⟩
      rw [nameGo, dif_neg (by omega), Nat.add_sub_cancel] at e
      have e1 : ((j + 1 : Nat) : Int) - 1 = j := by omega
      have e2 : (j : Int) % 26 = ((j % 26 : Nat) : Int) := by omega
      have e3 : (j : Int) / 26 = ((j / 26 : Nat) : Int) := by omega
      rw [e1, e2, e3]
      refine ⟨by decide, _, by decide, letter_at _ (Nat.mod_lt _ (by decide)), ?_, .inl ⟨?_, ?_⟩, _, ?_, trivial, _, rfl, e, ?_⟩
      · have : (⟨#[97 + j % 26]⟩ : Str).length = 1 := rfl
        rw [this]
        exact Nat.le_trans (Nat.add_le_add_left hl 1) (by decide)
      · decide
      · decide
      · omega
      · have : (letter (j % 26) ++ found).length = found.length + 1 := by
          rw [Str.length_append, Nat.add_comm]
          rfl
        show j / 26 * 2 ^ (letter (j % 26) ++ found).length ≤ 2 ^ 63
        rw [this, Nat.pow_succ]
        refine Nat.le_trans ?_ hb
        have : j / 26 * (2 ^ found.length * 2) = (2 * (j / 26)) * 2 ^ found.length := by
          rw [Nat.mul_comm (2 ^ found.length) 2, ← Nat.mul_assoc, Nat.mul_comm (j / 26) 2]
        rw [this]
        exact Nat.mul_le_mul_right _ (by omega)
    · have : m = 0 := by omega
      subst this
      rw [nameGo, dif_pos rfl] at e
      rw [e]
      exact r
end G

set_option Elab.async false
set_option linter.all false
set_option maxRecDepth 100000
set_option maxHeartbeats 1000000
set_option exponentiation.threshold 1000
namespace G
open PySem A3
/-- a hand stands at h: drawn numbers at p -/
structure Hand (S : Store) (h p : Addr) : Prop where
  ex : ∃ (ns : List Int) (i j k l : Int), S h = some (.lst [.ref p, .int i, .int j, .int k, .int l]) ∧ S p = some (.lst (ns.map .int)) ∧ p ≠ h ∧ 0 ≤ i ∧ 0 ≤ j
theorem Hand.ext {S S' : Store} {h p : Addr} (H : Hand S h p) (e : Ext S S') : Hand S' h p := by
  obtain ⟨ns, i, j, k, l, a, b, c⟩ := H.ex
  exact ⟨ns, i, j, k, l, e _ _ a, e _ _ b, c⟩
/-- all but the hand's own cell stays -/
def Drawn (S S' : Store) (h p : Addr) : Prop := Hand S' h p ∧ ∀ a, a ≠ h → S' a = S a
def sp__law_draw (K : PySem.W.Frag) : ASp := fun va S R _ => ∃ (h p : Addr) (n : Nat), va = [.ref h, .int n] ∧ Hand S h p ∧ 0 < n ∧ n < 1000000 ∧ ∀ (d : Nat) S', d < n → Drawn S S' h p → R (.int d) S'
theorem pf__law_draw {K : PySem.W.Frag} : ∀ va S R RE, sp__law_draw K va S R RE → rd__law_draw K (D0 R RE) (astart N__law_draw va) S := by
  rintro va S R RE ⟨h, p, n, rfl, H, hn, hn2, r⟩
  obtain ⟨ns, i, j, k, l, eh, ep, hp, hi, hj⟩ := H.ex
  have fin : ∀ (S1 : Store) (x : Int), (∀ a, a ≠ h → S1 a = S a) → (∃ i j k l, S1 h = some (.lst [.ref p, .int i, .int j, .int k, .int l]) ∧ 0 ≤ i ∧ 0 ≤ j) → R (.int (x % (n : Int))) S1 := fun S1 x e ⟨i, j, k, l, e1, e2, e3⟩ => by
    have b1 := Int.emod_nonneg x (show (n : Int) ≠ 0 by omega)
    have b2 := Int.emod_lt_of_pos x (show (0 : Int) < n by omega)
    have e4 : x % (n : Int) = (((x % (n : Int)).toNat : Nat) : Int) := by omega
    rw [e4]
    exact r _ _ (by omega) ⟨⟨ns, i, j, k, l, e1, by rw [e _ hp]; exact ep, hp, e2, e3⟩, e⟩
  unfold rd__law_draw
  refine cut (fun es S1 => ∃ c i j k l, es = [some (.ref h), some (.int n), c, none, none] ∧ (∀ a, a ≠ h → S1 a = S a) ∧ S1 h = some (.lst [.ref p, .int i, .int j, .int k, .int l]) ∧ 0 ≤ i ∧ 0 ≤ j) ?_ fun N hN => ?_
  · rintro _ S1 ⟨c, i, j, k, l, rfl, e, eh, hi, hj⟩
    simp! only [eh]
    refine ifD (fun h0 => ⟨by omega, .inl ⟨by omega, by omega⟩, fin _ _ (fun a ha => by rw [ups_ne ha, e a ha]) ⟨_, _, _, _, ups_same, hi, Int.ediv_nonneg hj (by omega)⟩⟩) fun h0 => ?_
    have m1 : ∀ x : Int, 0 ≤ x % 2147483647 ∧ x % 2147483647 < 2147483647 := fun x => ⟨Int.emod_nonneg x (by decide), Int.emod_lt_of_pos x (by decide)⟩
    have m2 : ∀ x : Int, 0 ≤ x % 2147483563 ∧ x % 2147483563 < 2147483563 := fun x => ⟨Int.emod_nonneg x (by decide), Int.emod_lt_of_pos x (by decide)⟩
    refine ⟨.inl (.inl ⟨by decide, by decide⟩), .inl (.inr ⟨by decide, by decide⟩), by decide, .inl ⟨by decide, by decide⟩, .inl (.inl ?_), by decide, .inl ⟨by decide, by decide⟩, .inl (.inl ?_), by decide, .inl ⟨by decide, by decide⟩, by omega, ?_⟩
    · have := m1 ((k + 7919 * (l + 1)) * 48271)
      omega
    · exact ⟨by have := m1 ((k + 7919 * (l + 1)) * 48271 % 2147483647 * ((k + 7919 * (l + 1)) * 48271 % 2147483647 / 1009 + 69621)); omega, by have := m1 ((k + 7919 * (l + 1)) * 48271 % 2147483647 * ((k + 7919 * (l + 1)) * 48271 % 2147483647 / 1009 + 69621)); omega⟩
    · exact fin _ _ (fun a ha => by rw [ups_ne ha, e a ha]) ⟨_, _, _, _, ups_same, hi, hj⟩
  · simp! only [eh]
    have stay : N [some (.ref h), some (.int n), none, none, none] S := hN _ _ ⟨none, i, j, k, l, rfl, fun _ _ => rfl, eh, hi, hj⟩
    refine ifD (fun h0 => ?_) fun _ => stay
    simp! only [ep, List.length_map]
    refine ifD (fun h1 => ?_) fun _ => stay
    obtain ⟨c, hc⟩ : ∃ c, ns[i.toNat]? = some c := ⟨ns[i.toNat]'(by omega), List.getElem?_eq_getElem _⟩
    rw [atI_ge hi, List.getElem?_map, hc]
    simp! only [Option.map_some]
    refine ⟨.inl (.inr ⟨by decide, by decide⟩), .inl (.inr ⟨by decide, by decide⟩), by decide, ⟨by decide, by decide, by decide⟩, ifD (fun h2 => ?_) fun _ => ?_⟩
    · exact hN _ _ ⟨_, _, _, _, _, rfl, fun a ha => by rw [ups_ne ha, ups_ne ha, ups_ne ha], ups_same, by omega, Int.le_trans (by decide) h2⟩
    · exact hN _ _ ⟨_, _, _, _, _, rfl, fun a ha => by rw [ups_ne ha, ups_ne ha], ups_same, by omega, hj⟩
def sp__law_any (K : PySem.W.Frag) : ASp := fun va S R _ => ∃ (h hp p : Addr) (xs : List Val), va = [.ref h, .ref p] ∧ Hand S h hp ∧ S p = some (.lst xs) ∧ p ≠ h ∧ 0 < xs.length ∧ xs.length < 1000000 ∧ ∀ x S', x ∈ xs → Drawn S S' h hp → R x S'
theorem pf__law_any {K : PySem.W.Frag} : ∀ va S R RE, sp__law_any K va S R RE → rd__law_any K (sp__law_draw K) (D0 R RE) (astart N__law_any va) S := by
  rintro va S R RE ⟨h, q, p, xs, rfl, H, hp, ne, h0, h1, r⟩
  unfold rd__law_any
  simp! only [hp]
  refine ⟨h, q, xs.length, rfl, H, h0, h1, fun d S' hd hD => ?_⟩
  have : S' p = some (.lst xs) := by rw [hD.2 p ne, hp]
  obtain ⟨x, hx⟩ : ∃ x, xs[d]? = some x := ⟨xs[d], List.getElem?_eq_getElem hd⟩
  simp! only [this, atI_nat, hx]
  exact r x S' (List.mem_of_getElem? hx) hD
end G

set_option Elab.async false
set_option linter.all false
set_option maxRecDepth 100000
set_option maxHeartbeats 1000000
set_option exponentiation.threshold 1000
namespace G
open PySem A3
/-- a numbered term -/
inductive Ix where
  | nm (s : Str)
  | v (n : Nat)
  | a (f x : Ix)
  | l (b : Ix)
def Ix.val : Ix → Val
  | .nm s => .str s
  | .v n => .int (n : Int)
  | .a f x => .tup [.str "of", f.val, x.val]
  | .l b => .tup [.str "with", b.val]
def Ix.size : Ix → Nat
  | .nm _ => 1
  | .v _ => 1
  | .a f x => f.size + x.size + 1
  | .l b => b.size + 1
/-- all its numbers are below d -/
def Ix.low (d : Nat) : Ix → Prop
  | .nm _ => True
  | .v n => n < d
  | .a f x => f.low d ∧ x.low d
  | .l b => b.low (d + 1)
theorem Ix.size_pos : ∀ x : Ix, 1 ≤ x.size
  | .nm _ => Nat.le_refl _
  | .v _ => Nat.le_refl _
  | .a f x => by simp [Ix.size]
  | .l b => by simp [Ix.size]
/-! ### the law's own rows -/
def kInt (n : Nat) : L2.Key := .inl (n : Int)
theorem valA_cons {κ : Type} [DecidableEq κ] {a k : κ} {x : Val} {t : List (κ × Val)} : valA ((a, x) :: t) k = if a = k then some x else valA t k := by
  unfold valA
  rw [List.find?_cons]
  by_cases h : a = k <;> simp [h]
theorem valA_map {κ : Type} [DecidableEq κ] {k k' : κ} {v : Val} : ∀ {kvs : List (κ × Val)}, (kvs.any fun kv => decide (kv.1 = k)) = true ∨ k ≠ k' → valA (kvs.map fun kv => if kv.1 = k then (kv.1, v) else kv) k' = if k = k' then some v else valA kvs k'
  | [], h => by
    rcases h with h | h
    · cases h
    · rw [if_neg h]; rfl
  | (a, x) :: t, h => by
    rw [List.map_cons]
    by_cases ha : a = k
    · subst ha
      rw [if_pos rfl, valA_cons, valA_cons]
      by_cases hk : a = k'
      · rw [if_pos hk, if_pos hk]
      · rw [if_neg hk, if_neg hk, if_neg hk, valA_map (.inr hk), if_neg hk]
    · rw [if_neg ha, valA_cons, valA_cons]
      by_cases hk : a = k'
      · subst hk
        rw [if_pos rfl, if_neg (Ne.symm ha), if_pos rfl]
      · rw [if_neg hk, if_neg hk, valA_map (h.imp_left fun q => by simpa [ha] using q)]
theorem valA_app {κ : Type} [DecidableEq κ] {k k' : κ} {v : Val} : ∀ {kvs : List (κ × Val)}, (kvs.any fun kv => decide (kv.1 = k)) = false → valA (kvs ++ [(k, v)]) k' = if k = k' then some v else valA kvs k'
  | [], _ => by rw [List.nil_append, valA_cons]
  | (a, x) :: t, h => by
    simp only [List.any_cons, Bool.or_eq_false_iff, decide_eq_false_iff_not] at h
    rw [List.cons_append, valA_cons, valA_cons, valA_app h.2]
    by_cases hk : a = k'
    · rw [if_pos hk, if_pos hk, if_neg (fun e => h.1 (hk.trans e.symm))]
    · rw [if_neg hk, if_neg hk]
theorem valA_put {κ : Type} [DecidableEq κ] {kvs : List (κ × Val)} {k k' : κ} {v : Val} : valA (putA kvs k v) k' = if k = k' then some v else valA kvs k' := by
  unfold putA
  split
  · next h => exact valA_map (.inl h)
  · next h => exact valA_app (Bool.eq_false_iff.mpr h)
theorem putA_len {κ : Type} [DecidableEq κ] {kvs : List (κ × Val)} {k : κ} {v : Val} : (putA kvs k v).length ≤ kvs.length + 1 := by
  unfold putA
  split
  · simp
  · simp
/-! ### the law's own terms -/
theorem len_le {α : Type} [DecidableEq α] : ∀ (l m : List α), l.Nodup → (∀ x, x ∈ l → x ∈ m) → l.length ≤ m.length
  | [], _, _, _ => Nat.zero_le _
  | a :: t, m, h, s => by
    have h' := List.nodup_cons.mp h
    have ha : a ∈ m := s a (List.mem_cons_self ..)
    have := len_le t (m.erase a) h'.2 fun x hx => (List.mem_erase_of_ne (fun e => h'.1 (by rw [← e]; exact hx))).mpr (s x (List.mem_cons_of_mem _ hx))
    rw [List.length_erase_of_mem ha] at this
    have : 0 < m.length := List.length_pos_of_mem ha
    simp only [List.length_cons]
    omega
abbrev pathV (p : List Nat) : Val := .tup (p.map fun n : Nat => Val.int (n : Int))
def keyP (p : List Nat) : List L2.Key := p.map kInt
theorem keyP_of : ∀ p : List Nat, keysA (p.map fun n : Nat => Val.int (n : Int)) = some (keyP p)
  | [] => rfl
  | n :: p => by
    rw [List.map_cons, keysA, keyP_of p]
    rfl
theorem keyP_inj : ∀ {p q : List Nat}, keyP p = keyP q → p = q
  | [], [], _ => rfl
  | [], _ :: _, h => by cases h
  | _ :: _, [], h => by cases h
  | a :: p, b :: q, h => by
    simp only [keyP, List.map_cons, List.cons.injEq, kInt, Sum.inl.injEq] at h
    have h1 : a = b := by omega
    rw [h1, keyP_inj h.2]
theorem path_app (p : List Nat) (k : Nat) : (p.map fun n : Nat => Val.int (n : Int)) ++ [Val.int (k : Int)] = (p ++ [k]).map fun n : Nat => Val.int (n : Int) := by simp
/-- a term of names -/
inductive Tm where
  | v (s : Str)
  | a (f x : Tm)
  | l (s : Str) (b : Tm)
def Tm.val : Tm → Val
  | .v s => .str s
  | .a f x => .tup [.str "of", f.val, x.val]
  | .l s b => .tup [.str "with", .str s, b.val]
def Tm.size : Tm → Nat
  | .v _ => 1
  | .a f x => f.size + x.size + 1
  | .l _ b => b.size + 1
def Tm.deep : Tm → Nat
  | .v _ => 1
  | .a f x => max f.deep x.deep + 1
  | .l _ b => b.deep + 1
theorem Tm.size_pos : ∀ t : Tm, 1 ≤ t.size
  | .v _ => Nat.le_refl _
  | .a _ _ => by simp [Tm.size]
  | .l _ _ => by simp [Tm.size]
def smallS : Str := "abcdefghijklmnopqrstuvwxyz"
/-- a name: one to eight small letters -/
def isName (s : Str) : Bool := decide (1 ≤ s.length) && decide (s.length ≤ 8) && s.cps.toList.all fun c => decide (c ∈ smallS.cps.toList)
/-- all its names are right -/
def Tm.good : Tm → Bool
  | .v s => isName s
  | .a f x => f.good && x.good
  | .l s b => isName s && b.good
/-- the numbered term, with these names bound, the innermost first -/
def Tm.idx : List Str → Tm → Ix
  | b, .v s => if s ∈ b then .v (b.idxOf s) else .nm s
  | b, .a f x => .a (f.idx b) (x.idx b)
  | b, .l s t => .l (t.idx (s :: b))
theorem Tm.idx_size : ∀ (t : Tm) (b : List Str), (t.idx b).size = t.size
  | .v s, b => by
    simp only [Tm.idx]
    split <;> rfl
  | .a f x, b => by simp only [Tm.idx, Ix.size, Tm.size, Tm.idx_size f b, Tm.idx_size x b]
  | .l s t, b => by simp only [Tm.idx, Ix.size, Tm.size, Tm.idx_size t (s :: b)]
end G

set_option Elab.async false
set_option linter.all false
set_option maxRecDepth 100000
set_option maxHeartbeats 1000000
set_option exponentiation.threshold 1000
namespace G
open PySem A3
def isNameV : Val → Bool
  | .str s => isName s
  | _ => false
theorem isI_str {x : Val} {S : Store} (h : isI "str" x S = true) : ∃ s, x = .str s := by
  cases x with
  | str s => exact ⟨s, rfl⟩
  | ref p =>
    unfold isI at h
    cases q : tyV? (.ref p) S with
    | none => simp [q] at h
    | some k =>
      simp only [q] at h
      rcases ty_ref q with rfl | rfl <;> exact absurd h (by decide)
  | _ => simp [isI, tyV?, subTy] at h
theorem isI_str' {s : Str} {S : Store} : isI "str" (.str s) S = true := rfl
def sp_is_name (K : PySem.W.Frag) : ASp := fun va S R _ => ∃ x, va = [x] ∧ tyOk x S ∧ (∀ s, x = .str s → s.length ≤ 1000) ∧ ∀ S', Ext S S' → R (.bl (isNameV x)) S'
theorem pf_is_name {K : PySem.W.Frag} : ∀ va S R RE, sp_is_name K va S R RE → rd_is_name K (D0 R RE) (astart N_is_name va) S := by
  rintro va S R RE ⟨x, rfl, t, hl, r⟩
  unfold rd_is_name
  simp! only []
  refine ⟨t, ifB (fun h => ?_) fun h => ?_⟩
  · obtain ⟨s, rfl⟩ := isI_str h
    have hl := hl s rfl
    simp! only []
    refine ⟨by simp only [sizeLine]; omega, ifD (fun h1 => ifD (fun h2 => ?_) fun h2 => ?_) fun h1 => ?_⟩
    · refine lc_map (fun c => match c with
        | .str z => .bl (match signOf z with
          | some c => decide (c ∈ smallS.cps.toList)
          | none => false)
        | _ => .non) fun N hN => ?_
      show N ⟨signs s, fun _ => True⟩ S
      refine hN _ _ (by simp only [signs, List.length_map, Array.length_toList, sizeLine]; exact Nat.le_trans hl (by decide)) (fun _ _ => trivial) (fun i y S2 hy e Y hY => ?_) fun p S2 hp e hp2 => ?_
      · simp only [signs, List.getElem?_map, Option.map_eq_some_iff] at hy
        obtain ⟨c, _, rfl⟩ := hy
        simp! only []
        exact ⟨c, rfl, hY _ (.refl _)⟩
      · refine ⟨s.cps.toList.map fun c => decide (c ∈ smallS.cps.toList), .inl ?_, ?_⟩
        · rw [hp2]
          simp only [signs, List.map_map]
          rfl
        · have e1 : isNameV (.str s) = (s.cps.toList.map fun c => decide (c ∈ smallS.cps.toList)).all id := by
            simp only [isNameV, isName, List.all_map]
            have a0 : (1 : Int) ≤ s.length := by simpa using h1
            have a1 : decide (1 ≤ s.length) = true := by simp; omega
            have a2 : decide (s.length ≤ 8) = true := by simp; omega
            rw [a1, a2]
            rfl
          rw [← e1]
          exact r S2 e
    · have e1 : isNameV (.str s) = false := by
        have a2 : decide (s.length ≤ 8) = false := by simp; omega
        simp only [isNameV, isName, a2, Bool.and_false, Bool.false_and]
      have := r S (.refl S)
      rw [e1] at this
      exact this
    · have e1 : isNameV (.str s) = false := by
        have a2 : decide (1 ≤ s.length) = false := by simp at h1 ⊢; omega
        simp only [isNameV, isName, a2, Bool.and_false, Bool.false_and]
      have := r S (.refl S)
      rw [e1] at this
      exact this
  · have e1 : isNameV x = false := by
      cases x with
      | str s => rw [isI_str'] at h; cases h
      | _ => rfl
    have := r S (.refl S)
    rw [e1] at this
    exact this
theorem isI_tup {x : Val} {S : Store} (h : isI "tuple" x S = true) : ∃ xs, x = .tup xs := by
  cases x with
  | tup xs => exact ⟨xs, rfl⟩
  | ref p =>
    unfold isI at h
    cases q : tyV? (.ref p) S with
    | none => simp [q] at h
    | some k =>
      simp only [q] at h
      rcases ty_ref q with rfl | rfl <;> exact absurd h (by decide)
  | _ => simp [isI, tyV?, subTy] at h
def isTupV : Val → Nat → Bool
  | .tup xs, n => decide (xs.length = n)
  | _, _ => false
def sp_is_tuple (K : PySem.W.Frag) : ASp := fun va S R _ => ∃ (x : Val) (n : Nat), va = [x, .int n] ∧ tyOk x S ∧ R (.bl (isTupV x n)) S
theorem pf_is_tuple {K : PySem.W.Frag} : ∀ va S R RE, sp_is_tuple K va S R RE → rd_is_tuple K (D0 R RE) (astart N_is_tuple va) S := by
  rintro va S R RE ⟨x, n, rfl, t, r⟩
  unfold rd_is_tuple
  simp! only []
  refine ⟨t, ifB (fun h => ?_) fun h => ?_⟩
  · obtain ⟨xs, rfl⟩ := isI_tup h
    simp! only []
    have e : decide ((xs.length : Int) = (n : Int)) = isTupV (.tup xs) n := by
      simp only [isTupV]
      congr 1
      exact propext ⟨fun h => by omega, fun h => by omega⟩
    rw [e]
    exact r
  · have e : isTupV x n = false := by
      cases x with
      | tup xs => cases h
      | _ => rfl
    rw [e] at r
    exact r
def isHeadV : Val → Str → Nat → Bool
  | .tup (.str z :: ys), w, n => decide (ys.length + 1 = n) && decide (z = w)
  | _, _, _ => false
def sp_is_headed (K : PySem.W.Frag) : ASp := fun va S R _ => ∃ (x : Val) (w : Str) (n : Nat), va = [x, .str w, .int n] ∧ 1 ≤ n ∧ tyOk x S ∧ (∀ y ys, x = .tup (y :: ys) → tyOk y S) ∧ R (.bl (isHeadV x w n)) S
theorem pf_is_headed {K : PySem.W.Frag} : ∀ va S R RE, sp_is_headed K va S R RE → rd_is_headed K (sp_is_tuple K) (D0 R RE) (astart N_is_headed va) S := by
  rintro va S R RE ⟨x, w, n, rfl, hn, t, t2, r⟩
  unfold rd_is_headed
  simp! only []
  refine ⟨x, n, rfl, t, ifB (fun h => ?_) fun h => ?_⟩
  · cases x with
    | tup xs =>
      have hl : xs.length = n := by simpa [isTupV] using h
      cases xs with
      | nil => simp at hl; omega
      | cons y ys =>
        have ty := t2 y ys rfl
        have e0 : L2.atI (y :: ys) 0 = some y := atI_nat (i := 0)
        simp! only [e0]
        refine ⟨ty, ifB (fun h2 => ?_) fun h2 => ?_⟩
        · obtain ⟨z, rfl⟩ := isI_str h2
          simp! only []
          have e : decide (z = w) = isHeadV (.tup (.str z :: ys)) w n := by
            simp only [isHeadV]
            rw [show decide (ys.length + 1 = n) = true by simpa using hl, Bool.true_and]
          rw [e]
          exact r
        · have e : isHeadV (.tup (y :: ys)) w n = false := by
            cases y with
            | str z => rw [isI_str'] at h2; cases h2
            | _ => rfl
          rw [e] at r
          exact r
    | _ => cases h
  · have e : isHeadV x w n = false := by
      cases x with
      | tup xs =>
        cases xs with
        | nil => rfl
        | cons y ys =>
          cases y with
          | str z =>
            have : decide (ys.length + 1 = n) = false := by simpa [isTupV] using h
            simp only [isHeadV, this, Bool.false_and]
          | _ => rfl
      | _ => rfl
    rw [e] at r
    exact r
/-- anything that a function may be given -/
inductive AnyV (S : Store) : Val → Prop
  | non : AnyV S .non
  | bl (b : Bool) : AnyV S (.bl b)
  | int (i : Int) : AnyV S (.int i)
  | str {s : Str} : s.length ≤ 1000 → AnyV S (.str s)
  | tup {xs : List Val} : (∀ y, y ∈ xs → AnyV S y) → AnyV S (.tup xs)
  | ref {p : Addr} : tyOk (.ref p) S → AnyV S (.ref p)
theorem AnyV.ty {S : Store} {x : Val} (h : AnyV S x) : tyOk x S := by cases h <;> first | rfl | assumption
theorem tyOk_ext {S S' : Store} {x : Val} (h : tyOk x S) (e : Ext S S') : tyOk x S' := by
  cases x with
  | ref p =>
    unfold tyOk at h ⊢
    simp only [tyV?] at h ⊢
    cases q : S p with
    | none => rw [q] at h; cases h
    | some c => rw [e _ _ q]; rw [q] at h; exact h
  | _ => rfl
theorem AnyV.ext {S S' : Store} {x : Val} (h : AnyV S x) (e : Ext S S') : AnyV S' x := by
  induction h with
  | non => exact .non
  | bl b => exact .bl b
  | int i => exact .int i
  | str h => exact .str h
  | tup _ ih => exact .tup ih
  | ref h => exact .ref (tyOk_ext h e)
theorem AnyV.len {S : Store} {s : Str} (h : AnyV S (.str s)) : s.length ≤ 1000 := by cases h; assumption
theorem AnyV.mem {S : Store} {xs : List Val} {y : Val} (h : AnyV S (.tup xs)) (hy : y ∈ xs) : AnyV S y := by cases h with | tup h => exact h y hy
def formsW : Val → List Val × Bool
  | .tup [h, f, y] => if isHeadV (.tup [h, f, y]) "with" 3 = true ∧ isNameV f = true then ([y], true) else ([], false)
  | _ => ([], false)
def tailV : Val → List Val
  | .tup xs => xs.drop 1
  | _ => []
def formsV (x : Val) : List Val × Bool := if isNameV x = true then ([], true) else if isHeadV x "of" 3 = true then (tailV x, true) else formsW x
def sp_forms_of (K : PySem.W.Frag) : ASp := fun va S R _ => ∃ x, va = [x] ∧ AnyV S x ∧ ∀ S', Ext S S' → R (.tup [.tup (formsV x).1, .bl (formsV x).2]) S'
theorem headV_len {x : Val} {w : Str} {n : Nat} (h : isHeadV x w n = true) : ∃ z ys, x = .tup (.str z :: ys) ∧ ys.length + 1 = n ∧ z = w := by
  cases x with
  | tup xs =>
    cases xs with
    | nil => cases h
    | cons y ys =>
      cases y with
      | str z =>
        simp only [isHeadV, Bool.and_eq_true, decide_eq_true_eq] at h
        exact ⟨z, ys, rfl, h.1, h.2⟩
      | _ => cases h
  | _ => cases h
theorem cut_d1 {xs : List Val} : cutA xs (some 1) none = xs.drop 1 := cutA_drop (k := 1)
theorem cut_d2 {xs : List Val} : cutA xs (some 2) none = xs.drop 2 := cutA_drop (k := 2)
theorem pf_forms_of {K : PySem.W.Frag} : ∀ va S R RE, sp_forms_of K va S R RE → rd_forms_of K (sp_is_name K) (sp_is_headed K) (D0 R RE) (astart N_forms_of va) S := by
  rintro va S R RE ⟨x, rfl, t, r⟩
  unfold rd_forms_of
  have t1 : ∀ {S'}, Ext S S' → ∀ y ys, x = .tup (y :: ys) → tyOk y S' := fun e y ys h => by
    subst h
    exact ((t.ext e).mem (List.mem_cons_self ..)).ty
  refine cut2 (fun es S1 => es = [some x] ∧ Ext S S1 ∧ isNameV x = false) (fun N hN => ?_) ?_
  · simp! only []
    refine ⟨x, rfl, t.ty, fun s h => by subst h; exact t.len, fun S1 X => ifB (fun h => ?_) fun h => ?_⟩
    · have e : formsV x = ([], true) := if_pos h
      rw [e] at r
      exact ⟨by decide, by decide, r S1 X⟩
    · exact hN _ _ ⟨rfl, X, h⟩
  rintro _ S1 ⟨rfl, X, hnm⟩
  refine cut2 (fun es S2 => es = [some x] ∧ S1 = S2 ∧ isHeadV x "of" 3 = false) (fun N hN => ?_) ?_
  · simp! only []
    refine ⟨x, "of", 3, rfl, by decide, (t.ext X).ty, t1 X, ifB (fun h => ?_) fun h => ?_⟩
    · obtain ⟨z, ys, rfl, _, _⟩ := headV_len h
      have e : formsV (.tup (.str z :: ys)) = (ys, true) := by
        unfold formsV
        rw [if_neg (by rw [hnm]; decide), if_pos h]
        rfl
      rw [e] at r
      simp! only [cut_d1]
      exact ⟨by decide, r S1 X⟩
    · exact hN _ _ ⟨rfl, rfl, h⟩
  rintro _ S2 ⟨rfl, rfl, hof⟩
  have ef : formsV x = formsW x := by
    unfold formsV
    rw [if_neg (by rw [hnm]; decide), if_neg (by rw [hof]; decide)]
  simp! only []
  have fin : ∀ {S'}, Ext S S' → formsV x = ([], false) → (0 ≤ sizeLine ∧ 2 ≤ sizeLine ∧ R (.tup [.tup [], .bl false]) S') := fun X' e => by
    have r' := r _ X'
    rw [e] at r'
    exact ⟨by decide, by decide, r'⟩
  refine ⟨x, "with", 3, rfl, by decide, (t.ext X).ty, t1 X, ifB (fun h => ?_) fun h => ?_⟩
  · obtain ⟨z, ys, rfl, hl, _⟩ := headV_len h
    match ys, hl with
    | [f, y], _ =>
      have tf := (t.ext X).mem (y := f) (by simp)
      have e1 : L2.atI [.str z, f, y] 1 = some f := rfl
      simp! only [e1]
      refine ⟨f, rfl, tf.ty, fun s h => by subst h; exact tf.len, fun S2 X2 => ifB (fun h2 => ?_) fun h2 => ?_⟩
      · have e : formsV (.tup [.str z, f, y]) = ([y], true) := by rw [ef]; exact if_pos ⟨h, h2⟩
        have r' := r _ (X.trans X2)
        rw [e] at r'
        refine ⟨by decide, ?_⟩
        rw [cut_d2]
        exact r'
      · refine fin (X.trans X2) ?_
        rw [ef]
        exact if_neg fun z => by rw [h2] at z; exact absurd z.2 (by decide)
  · refine fin X ?_
    rw [ef]
    unfold formsW
    split
    · exact if_neg fun z => by rw [h] at z; exact absurd z.1 (by decide)
    · rfl
end G

set_option Elab.async false
set_option linter.all false
set_option maxRecDepth 100000
set_option maxHeartbeats 1000000
set_option exponentiation.threshold 1000
namespace G
open PySem A3
theorem formsV_len (x : Val) : (formsV x).1.length ≤ 2 := by
  unfold formsV
  split
  · simp
  · split
    · rename_i h
      obtain ⟨z, ys, rfl, hl, _⟩ := headV_len h
      simp only [tailV, List.drop_succ_cons, List.drop_zero]
      omega
    · unfold formsW
      split
      · split <;> simp
      · simp
theorem formsV_mem {S : Store} {x y : Val} (h : AnyV S x) (hy : y ∈ (formsV x).1) : AnyV S y := by
  unfold formsV at hy
  split at hy
  · cases hy
  · split at hy
    · cases x with
      | tup xs => exact h.mem (List.mem_of_mem_drop hy)
      | _ => cases hy
    · unfold formsW at hy
      split at hy
      · split at hy
        · have := List.mem_singleton.mp hy
          subst this
          exact h.mem (by simp)
        · cases hy
      · cases hy
/-- what waits, how many there were: is all of it right? -/
def isTF : Nat → List (Val × Nat) → Nat → Bool
  | 0, _, _ => false
  | n + 1, W, m => match W.getLast? with
    | none => true
    | some (x, d) => if (formsV x).2 = false ∨ 16 < d ∨ 120 < m + 1 then false else isTF n (W.dropLast ++ (formsV x).1.map fun y => (y, d + 1)) (m + 1)
def isTermV (x : Val) : Bool := isTF 122 [(x, 1)] 0
def went (e : Val × Nat) : Val := .tup [e.1, .int (e.2 : Int)]
def sp_is_term (K : PySem.W.Frag) : ASp := fun va S R _ => ∃ x, va = [x] ∧ AnyV S x ∧ ∀ S', Ext S S' → R (.bl (isTermV x)) S'
theorem pf_is_term {K : PySem.W.Frag} : ∀ va S R RE, sp_is_term K va S R RE → rd_is_term K (sp_forms_of K) (D0 R RE) (astart N_is_term va) S := by
  rintro va S0 R RE ⟨x, rfl, hx, ret⟩
  unfold rd_is_term
  simp! only []
  refine ⟨by decide, by decide, fun w hw => ?_⟩
  refine ⟨fun n es S => ∃ (W : List (Val × Nat)) (m : Nat) (o3 o4 o5 o6 o7 : Option Val), es = [some x, some (.ref w), some (.int (m : Int)), o3, o4, o5, o6, o7] ∧ n + m = 122 ∧ m ≤ 120 ∧ W.length ≤ m + 1 ∧ Ext S0 S ∧ S w = some (.lst (W.map went)) ∧ (∀ e, e ∈ W → AnyV S e.1) ∧ isTF n W m = isTermV x,
    ⟨122, [(x, 1)], 0, _, _, _, _, _, rfl, rfl, by decide, by simp, .new hw, by rw [ups_same]; rfl, fun e he => by
      have := List.mem_singleton.mp he
      subst this
      exact hx.ext (.new hw), rfl⟩, ?_⟩
  rintro n _ S ⟨W, m, o3, o4, o5, o6, o7, rfl, hnm, hm, hl, X, hw', hany, htf⟩
  obtain ⟨n, rfl⟩ : ∃ k, n = k + 1 := ⟨n - 1, by omega⟩
  dsimp! only [hw', List.length_map]
  refine ifD (fun q => ?_) (fun q => ?_)
  · obtain ⟨W', ⟨y, d⟩, rfl⟩ : ∃ W' e, W = W' ++ [e] := by
      rcases List.eq_nil_or_concat W with h | ⟨W', e, h⟩
      · subst h; simp at q
      · exact ⟨W', e, by simpa using h⟩
    have hy := hany (y, d) (by simp)
    simp only [isTF, List.getLast?_concat, List.dropLast_concat] at htf
    have hl' : W'.length ≤ m := by simp at hl; exact hl
    refine cut2 (fun es S1 => es = [some x, some (.ref w), some (.int (m : Int)), some y, some (.int (d : Int)), o5, o6, o7] ∧ S1 = ups S w (.lst (W'.map went))) (fun N hN => ?_) ?_
    · simp! only [hw', List.map_append, List.getLast?_concat, List.dropLast_concat, went]
      exact ⟨trivial, trivial, trivial, hN _ _ ⟨rfl, rfl⟩⟩
    rintro _ _ ⟨rfl, rfl⟩
    have X1 : Ext S0 (ups S w (.lst (W'.map went))) := X.put hw
    have hw1 : ups S w (.lst (W'.map went)) w = some (.lst (W'.map went)) := ups_same
    have keep : ∀ v, AnyV S v → AnyV (ups S w (.lst (W'.map went))) v := fun v hv => by
      induction hv with
      | non => exact .non
      | bl b => exact .bl b
      | int i => exact .int i
      | str h => exact .str h
      | tup _ ih => exact .tup ih
      | @ref p h =>
        refine .ref ?_
        by_cases e : p = w
        · subst e
          unfold tyOk
          simp only [tyV?, ups_same]
          rfl
        · unfold tyOk at h ⊢
          simp only [tyV?, ups_ne e] at h ⊢
          exact h
    have hy1 := keep y hy
    have hany1 : ∀ e, e ∈ W' → AnyV (ups S w (.lst (W'.map went))) e.1 := fun e he => keep _ (hany e (by simp [he]))
    generalize ups S w (.lst (W'.map went)) = S1 at X1 hw1 hy1 hany1
    clear keep hany hy hw' X hl
    refine cut2 (fun es S2 => es = [some x, some (.ref w), some (.int ((m + 1 : Nat) : Int)), some y, some (.int (d : Int)), o5, o6, o7] ∧ S1 = S2) (fun N hN => ?_) ?_
    · simp! only []
      exact hN _ _ ⟨rfl, rfl⟩
    rintro _ _ ⟨rfl, rfl⟩
    refine cut2 (fun es S2 => es = [some x, some (.ref w), some (.int ((m + 1 : Nat) : Int)), some y, some (.int (d : Int)), some (.tup (formsV y).1), some (.bl (formsV y).2), o7] ∧ Ext S1 S2) (fun N hN => ?_) ?_
    · simp! only []
      exact ⟨y, rfl, hy1, fun S2 X2 => by
        refine ⟨rfl, ?_⟩
        exact ⟨rfl, hN _ _ ⟨rfl, X2⟩⟩⟩
    rintro _ S2 ⟨rfl, X2⟩
    refine cut2 (fun es S3 => es = [some x, some (.ref w), some (.int ((m + 1 : Nat) : Int)), some y, some (.int (d : Int)), some (.tup (formsV y).1), some (.bl (formsV y).2), o7] ∧ S2 = S3 ∧ ¬ ((formsV y).2 = false ∨ 16 < d ∨ 120 < m + 1)) (fun N hN => ?_) ?_
    · have no : ((formsV y).2 = false ∨ 16 < d ∨ 120 < m + 1) → R (.bl false) S2 := fun h => by
        rw [if_pos h] at htf
        rw [htf]
        exact ret S2 (X1.trans X2)
      simp! only []
      refine ifBN (fun h => no (.inl h)) fun h => ?_
      refine ifD (fun h2 => no (.inr (.inl (by omega)))) fun h2 => ?_
      refine ifD (fun h3 => no (.inr (.inr (by omega)))) fun h3 => ?_
      refine hN _ _ ⟨rfl, rfl, ?_⟩
      rintro (z | z | z)
      · rw [h] at z; cases z
      · omega
      · omega
    rintro _ _ ⟨rfl, rfl, hno⟩
    rw [if_neg hno] at htf
    refine hide fun N hN => ?_
    simp! only [X2 _ _ hw1]
    refine ⟨trivial, ?_⟩
    refine lc_map (fun z => .tup [z, .int ((d : Int) + 1)]) fun M hM => ?_
    show M ⟨(formsV y).1, fun _ => True⟩ S2
    have fl := formsV_len y
    refine hM _ _ (by simp only [sizeLine]; omega) (fun _ _ => trivial) (fun i z S3 hz e Y hY => ?_) fun p S3 hp e hp2 => ?_
    · simp! only []
      exact ⟨by decide, hY _ (.refl _)⟩
    · have hw3 := e _ _ (X2 _ _ hw1)
      simp! only [hw3, hp2]
      refine ⟨by simp only [List.length_map, sizeLine]; omega, hN _ _ ⟨n, by omega, W' ++ (formsV y).1.map (fun z => (z, d + 1)), m + 1, _, _, _, _, _, rfl, by omega, ?_, ?_, ?_, ?_, ?_, htf⟩⟩
      · rcases Nat.lt_or_ge 120 (m + 1) with h | h
        · exact absurd (.inr (.inr h)) hno
        · exact h
      · simp
        omega
      · exact ((X1.trans X2).trans e).put hw
      · rw [ups_same, List.map_append, List.map_map]
        rfl
      · have keep : ∀ v, AnyV S3 v → ∀ c, AnyV (ups S3 w (.lst c)) v := fun v hv c => by
          induction hv with
          | non => exact .non
          | bl b => exact .bl b
          | int i => exact .int i
          | str h => exact .str h
          | tup _ ih => exact .tup ih
          | @ref p h =>
            refine .ref ?_
            by_cases e : p = w
            · subst e
              unfold tyOk
              simp only [tyV?, ups_same]
              rfl
            · unfold tyOk at h ⊢
              simp only [tyV?, ups_ne e] at h ⊢
              exact h
        intro v hv
        refine keep _ ?_ _
        rcases List.mem_append.mp hv with hv | hv
        · exact ((hany1 v hv).ext X2).ext e
        · obtain ⟨z, hz, rfl⟩ := List.mem_map.mp hv
          exact ((formsV_mem hy1 hz).ext X2).ext e
  · simp! only []
    have hW : W = [] := by
      cases W with
      | nil => rfl
      | cons a b => simp at q
    subst hW
    have e : isTermV x = true := htf.symm
    rw [← e]
    exact ret S X
def exNoTerm (K : PySem.W.Frag) : Exn := ⟨He.ga K "NoTerm", none⟩
def sp_check_term (K : PySem.W.Frag) : ASp := fun va S R RE => ∃ x, va = [x] ∧ AnyV S x ∧ ∀ S', Ext S S' → (isTermV x = true → R .non S') ∧ (isTermV x = false → RE (exNoTerm K) S')
theorem pf_check_term {K : PySem.W.Frag} : ∀ va S R RE, sp_check_term K va S R RE → rd_check_term K (sp_is_term K) (D0 R RE) (astart N_check_term va) S := by
  rintro va S R RE ⟨x, rfl, t, r⟩
  unfold rd_check_term
  simp! only []
  exact ⟨x, rfl, t, fun S' X => ifBN (r S' X).2 (r S' X).1⟩
/-! a term of names is right -/
theorem formsV_v {s : Str} (h : isName s = true) : formsV (.str s) = ([], true) := if_pos h
theorem formsV_a {f x : Val} : formsV (.tup [.str "of", f, x]) = ([f, x], true) := by
  unfold formsV
  rw [if_neg (by intro h; cases h), if_pos (by
    simp only [isHeadV, Bool.and_eq_true, decide_eq_true_eq]
    exact ⟨rfl, trivial⟩)]
  rfl
theorem formsV_l {s : Str} {b : Val} (h : isName s = true) : formsV (.tup [.str "with", .str s, b]) = ([b], true) := by
  unfold formsV
  rw [if_neg (by intro h; cases h), if_neg (by
    simp only [isHeadV, Bool.and_eq_true, decide_eq_true_eq]
    exact fun z => absurd z.2 (by decide +kernel))]
  exact if_pos ⟨by
    simp only [isHeadV, Bool.and_eq_true, decide_eq_true_eq]
    exact ⟨rfl, trivial⟩, h⟩
def Tm.kids : Tm → List Tm
  | .v _ => []
  | .a f x => [f, x]
  | .l _ b => [b]
theorem formsV_tm : ∀ (t : Tm), t.good = true → formsV t.val = (t.kids.map Tm.val, true)
  | .v _, h => formsV_v h
  | .a _ _, _ => formsV_a
  | .l _ _, h => formsV_l (by
      simp only [Tm.good, Bool.and_eq_true] at h
      exact h.1)
def tsum (W : List (Tm × Nat)) : Nat := (W.map fun e => e.1.size).sum
theorem isTF_good : ∀ (n : Nat) (W : List (Tm × Nat)) (m : Nat), tsum W < n → m + tsum W ≤ 120 → (∀ e, e ∈ W → e.1.good = true ∧ e.1.deep + e.2 ≤ 17) → isTF n (W.map fun e => (e.1.val, e.2)) m = true := by
  intro n
  induction n with
  | zero => intro W m h; omega
  | succ n ih =>
    intro W m hn hm hg
    rcases List.eq_nil_or_concat W with h | ⟨W', ⟨t, d⟩, h⟩
    · subst h
      rfl
    · have h : W = W' ++ [(t, d)] := by simpa using h
      subst h
      have es : tsum (W' ++ [(t, d)]) = tsum W' + t.size := by simp [tsum]
      have hp := t.size_pos
      obtain ⟨g1, g2⟩ := hg (t, d) (by simp)
      have dp : 1 ≤ t.deep := by cases t <;> simp [Tm.deep]
      simp only [isTF, List.map_append, List.map_cons, List.map_nil, List.getLast?_concat, List.dropLast_concat]
      rw [formsV_tm t g1]
      dsimp only at g2 ⊢
      rw [if_neg (by
        rintro (z | z | z)
        · cases z
        · omega
        · omega)]
      have ek : tsum (t.kids.map fun k => (k, d + 1)) + 1 = t.size := by
        cases t <;> simp [Tm.kids, tsum, Tm.size]
      have ew : (W'.map fun e => (e.1.val, e.2)) ++ ((t.kids.map Tm.val).map fun y => (y, d + 1)) = ((W' ++ t.kids.map fun k => (k, d + 1)).map fun e => (e.1.val, e.2)) := by simp [Function.comp_def]
      rw [ew]
      have e3 : tsum (W' ++ t.kids.map fun k => (k, d + 1)) = tsum W' + tsum (t.kids.map fun k => (k, d + 1)) := by simp [tsum]
      refine ih _ _ (by omega) (by omega) fun e he => ?_
      rcases List.mem_append.mp he with he | he
      · exact hg e (by simp [he])
      · obtain ⟨k, hk, rfl⟩ := List.mem_map.mp he
        cases t with
        | v s => cases hk
        | a f x =>
          simp only [Tm.good, Bool.and_eq_true] at g1
          simp only [Tm.deep] at g2
          simp only [Tm.kids, List.mem_cons, List.not_mem_nil, or_false] at hk
          rcases hk with rfl | rfl
          · exact ⟨g1.1, by dsimp only; omega⟩
          · exact ⟨g1.2, by dsimp only; omega⟩
        | l s b =>
          simp only [Tm.good, Bool.and_eq_true] at g1
          simp only [Tm.deep] at g2
          simp only [Tm.kids, List.mem_cons, List.not_mem_nil, or_false] at hk
          subst hk
          exact ⟨g1.2, by dsimp only; omega⟩
theorem isTermV_good {t : Tm} (h : t.good = true) (h1 : t.deep ≤ 16) (h2 : t.size ≤ 120) : isTermV t.val = true :=
  isTF_good 122 [(t, 1)] 0 (by simp [tsum]; omega) (by simp [tsum]; omega) fun e he => by
    have := List.mem_singleton.mp he
    subst this
    exact ⟨h, by dsimp only; omega⟩
theorem isName_len {s : Str} (h : isName s = true) : s.length ≤ 8 := by
  simp only [isName, Bool.and_eq_true, decide_eq_true_eq] at h
  exact h.1.2
theorem Tm.any {S : Store} : ∀ (t : Tm), t.good = true → AnyV S t.val
  | .v s, h => .str (Nat.le_trans (isName_len h) (by decide))
  | .a f x, h => by
    simp only [Tm.good, Bool.and_eq_true] at h
    have hf := Tm.any (S := S) f h.1
    have hx := Tm.any (S := S) x h.2
    refine .tup fun y hy => ?_
    simp only [List.mem_cons, List.not_mem_nil, or_false] at hy
    rcases hy with rfl | rfl | rfl
    · exact .str (by decide)
    · exact hf
    · exact hx
  | .l s b, h => by
    simp only [Tm.good, Bool.and_eq_true] at h
    have hb := Tm.any (S := S) b h.2
    refine .tup fun y hy => ?_
    simp only [List.mem_cons, List.not_mem_nil, or_false] at hy
    rcases hy with rfl | rfl | rfl
    · exact .str (by decide)
    · exact .str (Nat.le_trans (isName_len h.1) (by decide))
    · exact hb
end G

set_option Elab.async false
set_option linter.all false
set_option maxRecDepth 100000
set_option maxHeartbeats 1000000
set_option exponentiation.threshold 1000
namespace G
open PySem A3
abbrev Dct := List (List L2.Key × Val)
/-- a path, the part there, the names that are bound there -/
structure En where
  p : List Nat
  t : Tm
  b : List Str
def preT : Tm → List Nat → List Str → List En
  | .v s, p, b => [⟨p, .v s, b⟩]
  | .a f x, p, b => ⟨p, .a f x, b⟩ :: (preT x (p ++ [1]) b ++ preT f (p ++ [0]) b)
  | .l s t, p, b => ⟨p, .l s t, b⟩ :: preT t (p ++ [0]) (s :: b)
def En.pre (e : En) : List En := preT e.t e.p e.b
def En.kids (e : En) : List En := match e.t with
  | .v _ => []
  | .a f x => [⟨e.p ++ [0], f, e.b⟩, ⟨e.p ++ [1], x, e.b⟩]
  | .l s t => [⟨e.p ++ [0], t, s :: e.b⟩]
theorem En.pre_eq (e : En) : e.pre = e :: e.kids.reverse.flatMap En.pre := by
  obtain ⟨p, t, b⟩ := e
  cases t with
  | v s => rfl
  | a f x => simp [En.pre, En.kids, preT]
  | l s t => simp [En.pre, En.kids, preT]
theorem preT_len : ∀ (t : Tm) (p : List Nat) (b : List Str), (preT t p b).length = t.size
  | .v _, _, _ => rfl
  | .a f x, p, b => by
    simp only [preT, Tm.size, List.length_cons, List.length_append, preT_len f, preT_len x]
    omega
  | .l s t, p, b => by simp only [preT, Tm.size, List.length_cons, preT_len t]
theorem preT_in : ∀ (t : Tm) (p : List Nat) (b : List Str) (e : En), e ∈ preT t p b → e.p.length + e.t.size ≤ p.length + t.size ∧ e.b.length + p.length ≤ e.p.length + b.length
  | .v s, p, b, e, h => by
    have := List.mem_singleton.mp h
    subst this
    exact ⟨Nat.le_refl _, by dsimp only; omega⟩
  | .a f x, p, b, e, h => by
    simp only [preT, List.mem_cons, List.mem_append] at h
    rcases h with rfl | h | h
    · exact ⟨Nat.le_refl _, by dsimp only; omega⟩
    · have := preT_in x _ _ e h
      simp only [List.length_append, List.length_cons, List.length_nil, Tm.size] at this ⊢
      omega
    · have := preT_in f _ _ e h
      simp only [List.length_append, List.length_cons, List.length_nil, Tm.size] at this ⊢
      omega
  | .l s t, p, b, e, h => by
    simp only [preT, List.mem_cons] at h
    rcases h with rfl | h
    · exact ⟨Nat.le_refl _, by dsimp only; omega⟩
    · have := preT_in t _ _ e h
      simp only [List.length_append, List.length_cons, List.length_nil, Tm.size] at this ⊢
      omega
/-- what a name's place gets -/
def leaf1 (kvs : Dct) (e : En) : Dct := match e.t with
  | .v s => putA kvs (keyP e.p) ((Tm.v s).idx e.b).val
  | _ => kvs
def gV (kvs : Dct) (p : List Nat) : Val := (valA kvs (keyP p)).getD .non
/-- what another place gets -/
def node2 (kvs : Dct) (e : En) : Dct := match e.t with
  | .v _ => kvs
  | .a _ _ => putA kvs (keyP e.p) (.tup [.str "of", gV kvs (e.p ++ [0]), gV kvs (e.p ++ [1])])
  | .l _ _ => putA kvs (keyP e.p) (.tup [.str "with", gV kvs (e.p ++ [0])])
def isS (kvs : Dct) (p : List Nat) : Prop := ∃ v, valA kvs (keyP p) = some v
def need (kvs : Dct) (e : En) : Prop := match e.t with
  | .v _ => True
  | .a _ _ => isS kvs (e.p ++ [0]) ∧ isS kvs (e.p ++ [1])
  | .l _ _ => isS kvs (e.p ++ [0])
def okF : Dct → List En → Prop
  | _, [] => True
  | kvs, e :: es => need kvs e ∧ okF (node2 kvs e) es
theorem okF_app : ∀ {as bs : List En} {kvs : Dct}, okF kvs as → okF (as.foldl node2 kvs) bs → okF kvs (as ++ bs)
  | [], _, _, _, h => h
  | a :: as, bs, kvs, h, k => ⟨h.1, okF_app h.2 k⟩
/-- all but what lies at p and below stays -/
def Off (p : List Nat) (kvs kvs' : Dct) : Prop := ∀ q, ¬ p <+: q → valA kvs' (keyP q) = valA kvs (keyP q)
theorem Off.refl (p : List Nat) (kvs : Dct) : Off p kvs kvs := fun _ _ => rfl
theorem Off.trans {p : List Nat} {a b c : Dct} (h : Off p a b) (k : Off p b c) : Off p a c := fun q hq => (k q hq).trans (h q hq)
theorem Off.up {p r : List Nat} {a b : Dct} (h : Off (p ++ r) a b) : Off p a b := fun q hq => h q fun z => hq (List.IsPrefix.trans (List.prefix_append p r) z)
theorem Off.put {p : List Nat} {kvs : Dct} {v : Val} : Off p kvs (putA kvs (keyP p) v) := fun q hq => by
  rw [valA_put, if_neg fun z => hq (by rw [keyP_inj z]; exact List.prefix_refl _)]
theorem noPre {p : List Nat} {i j : Nat} (h : i ≠ j) {r q : List Nat} (h1 : p ++ [i] ++ r = q) : ¬ (p ++ [j]) <+: q := fun ⟨s, hs⟩ => by
  rw [← h1, List.append_assoc, List.append_assoc, List.append_cancel_left_eq] at hs
  simp at hs
  exact h hs.1.symm
def LeafOk : Tm → List Nat → List Str → Dct → Prop
  | .v s, p, b, kvs => valA kvs (keyP p) = some ((Tm.v s).idx b).val
  | .a f x, p, b, kvs => LeafOk f (p ++ [0]) b kvs ∧ LeafOk x (p ++ [1]) b kvs
  | .l s t, p, b, kvs => LeafOk t (p ++ [0]) (s :: b) kvs
theorem LeafOk.stay : ∀ {t : Tm} {p : List Nat} {b : List Str} {kvs kvs' : Dct}, LeafOk t p b kvs → (∀ r, valA kvs' (keyP (p ++ r)) = valA kvs (keyP (p ++ r))) → LeafOk t p b kvs'
  | .v s, p, b, kvs, kvs', h, k => by
    have := k []
    rw [List.append_nil] at this
    exact this.trans h
  | .a f x, p, b, kvs, kvs', h, k => ⟨LeafOk.stay h.1 fun r => by rw [List.append_assoc]; exact k _, LeafOk.stay h.2 fun r => by rw [List.append_assoc]; exact k _⟩
  | .l s t, p, b, kvs, kvs', h, k => LeafOk.stay (t := t) h fun r => by rw [List.append_assoc]; exact k _
theorem Off.other {p : List Nat} {i j : Nat} {kvs kvs' : Dct} (h : Off (p ++ [j]) kvs kvs') (hij : i ≠ j) (r : List Nat) : valA kvs' (keyP (p ++ [i] ++ r)) = valA kvs (keyP (p ++ [i] ++ r)) := h _ (noPre hij rfl)
theorem leaves : ∀ (t : Tm) (p : List Nat) (b : List Str) (kvs : Dct), LeafOk t p b ((preT t p b).foldl leaf1 kvs) ∧ Off p kvs ((preT t p b).foldl leaf1 kvs)
  | .v s, p, b, kvs => by
    refine ⟨?_, Off.put⟩
    show valA (putA kvs (keyP p) _) (keyP p) = _
    rw [valA_put, if_pos rfl]
  | .a f x, p, b, kvs => by
    have e : (preT (.a f x) p b).foldl leaf1 kvs = (preT f (p ++ [0]) b).foldl leaf1 ((preT x (p ++ [1]) b).foldl leaf1 kvs) := by
      simp only [preT, List.foldl_cons, List.foldl_append]
      rfl
    rw [e]
    obtain ⟨h1, h2⟩ := leaves x (p ++ [1]) b kvs
    obtain ⟨h3, h4⟩ := leaves f (p ++ [0]) b ((preT x (p ++ [1]) b).foldl leaf1 kvs)
    exact ⟨⟨h3, h1.stay fun r => h4.other (by decide) r⟩, h2.up.trans h4.up⟩
  | .l s t, p, b, kvs => by
    have e : (preT (.l s t) p b).foldl leaf1 kvs = (preT t (p ++ [0]) (s :: b)).foldl leaf1 kvs := rfl
    rw [e]
    obtain ⟨h1, h2⟩ := leaves t (p ++ [0]) (s :: b) kvs
    exact ⟨h1, h2.up⟩
theorem nodes2 : ∀ (t : Tm) (p : List Nat) (b : List Str) (kvs : Dct), LeafOk t p b kvs →
    okF kvs (preT t p b).reverse ∧ valA ((preT t p b).reverse.foldl node2 kvs) (keyP p) = some (t.idx b).val ∧ Off p kvs ((preT t p b).reverse.foldl node2 kvs)
  | .v s, p, b, kvs, h => ⟨⟨trivial, trivial⟩, h, Off.refl _ _⟩
  | .a f x, p, b, kvs, h => by
    have e : (preT (.a f x) p b).reverse = (preT f (p ++ [0]) b).reverse ++ ((preT x (p ++ [1]) b).reverse ++ [⟨p, .a f x, b⟩]) := by
      simp [preT]
    obtain ⟨a1, a2, a3⟩ := nodes2 f (p ++ [0]) b kvs h.1
    obtain ⟨b1, b2, b3⟩ := nodes2 x (p ++ [1]) b ((preT f (p ++ [0]) b).reverse.foldl node2 kvs) (h.2.stay fun r => a3.other (by decide) r)
    have c0 : valA ((preT x (p ++ [1]) b).reverse.foldl node2 ((preT f (p ++ [0]) b).reverse.foldl node2 kvs)) (keyP (p ++ [0])) = some (f.idx b).val := by
      have := b3.other (i := 0) (by decide) []
      rw [List.append_nil] at this
      rw [this, a2]
    rw [e]
    refine ⟨okF_app a1 (okF_app b1 ⟨⟨⟨_, c0⟩, ⟨_, b2⟩⟩, trivial⟩), ?_, ?_⟩
    · rw [List.foldl_append, List.foldl_append, List.foldl_cons, List.foldl_nil]
      show valA (putA _ (keyP p) _) (keyP p) = _
      rw [valA_put, if_pos rfl]
      simp only [gV, c0, b2, Option.getD_some]
      rfl
    · rw [List.foldl_append, List.foldl_append, List.foldl_cons, List.foldl_nil]
      exact (a3.up.trans b3.up).trans Off.put
  | .l s t, p, b, kvs, h => by
    have e : (preT (.l s t) p b).reverse = (preT t (p ++ [0]) (s :: b)).reverse ++ [⟨p, .l s t, b⟩] := by
      simp [preT]
    obtain ⟨a1, a2, a3⟩ := nodes2 t (p ++ [0]) (s :: b) kvs h
    rw [e]
    refine ⟨okF_app a1 ⟨⟨_, a2⟩, trivial⟩, ?_, ?_⟩
    · rw [List.foldl_append, List.foldl_cons, List.foldl_nil]
      show valA (putA _ (keyP p) _) (keyP p) = _
      rw [valA_put, if_pos rfl]
      simp only [gV, a2, Option.getD_some]
      rfl
    · rw [List.foldl_append, List.foldl_cons, List.foldl_nil]
      exact a3.up.trans Off.put
theorem leaf1_len (kvs : Dct) (e : En) : (leaf1 kvs e).length ≤ kvs.length + 1 := by
  unfold leaf1
  split
  · exact putA_len
  · exact Nat.le_succ _
theorem node2_len (kvs : Dct) (e : En) : (node2 kvs e).length ≤ kvs.length + 1 := by
  unfold node2
  split
  · exact Nat.le_succ _
  · exact putA_len
  · exact putA_len
theorem foldl_len {f : Dct → En → Dct} (hf : ∀ kvs e, (f kvs e).length ≤ kvs.length + 1) : ∀ (es : List En) (kvs : Dct), (es.foldl f kvs).length ≤ kvs.length + es.length
  | [], _ => Nat.le_refl _
  | e :: es, kvs => by
    have h1 := foldl_len hf es (f kvs e)
    have h2 := hf kvs e
    simp only [List.foldl_cons, List.length_cons]
    omega
end G

set_option Elab.async false
set_option linter.all false
set_option maxRecDepth 100000
set_option maxHeartbeats 1000000
set_option exponentiation.threshold 1000
namespace G
open PySem A3
theorem idxOf_at {s : Str} : ∀ {b : List Str}, s ∈ b → b[b.idxOf s]? = some s ∧ ∀ m, m < b.idxOf s → b[m]? ≠ some s
  | a :: b, h => by
    by_cases e : a = s
    · subst e
      simp
    · have h' : s ∈ b := by
        rcases List.mem_cons.mp h with h | h
        · exact absurd h.symm e
        · exact h
      obtain ⟨h1, h2⟩ := idxOf_at h'
      have e2 : (a :: b).idxOf s = b.idxOf s + 1 := by
        rw [List.idxOf_cons, beq_false_of_ne e]
        rfl
      rw [e2]
      refine ⟨by simpa using h1, fun m hm => ?_⟩
      cases m with
      | zero => simpa using e
      | succ m => simpa using h2 m (by omega)
def ent2 (e : En) : Val := .tup [pathV e.p, e.t.val]
/-- what waits: with the cell that bears the bound names -/
def ent3 (e : En × Addr) : Val := .tup [pathV e.1.p, e.1.t.val, .ref e.2]
theorem flat_strs : ∀ b : List Str, (b.map Val.str).all flat = true
  | [] => rfl
  | _ :: b => by simpa [flat] using flat_strs b
theorem inF_strs (s : Str) : ∀ b : List Str, inF (.str s) (b.map Val.str) = decide (s ∈ b)
  | [] => by simp [inF]
  | a :: b => by
    have ih := inF_strs s b
    simp only [inF, List.map_cons, List.any_cons] at ih ⊢
    rw [ih]
    simp only [eqF, List.mem_cons]
    by_cases h : a = s
    · subst h; simp
    · simp [h, Ne.symm h]
theorem getP {kvs : Dct} (p : List Nat) : getD? (.dt kvs) (pathV p) = some (valA kvs (keyP p)) := by
  simp only [getD?, pathV, keyP_of]
  rfl
theorem getP1 {kvs : Dct} (p : List Nat) (k : Nat) : getD? (.dt kvs) (.tup ((p.map fun n : Nat => Val.int (n : Int)) ++ [Val.int (k : Int)])) = some (valA kvs (keyP (p ++ [k]))) := by
  rw [path_app]
  exact getP _
theorem putP {kvs : Dct} (p : List Nat) (v : Val) : putD? (.dt kvs) (pathV p) v = some (.dt (putA kvs (keyP p) v)) := by
  simp only [putD?, pathV, keyP_of]
  rfl
def wsum (W : List (En × Addr)) : Nat := (W.map fun e => e.1.t.size).sum
def sp_raw_indexed (K : PySem.W.Frag) : ASp := fun va S R _ => ∃ t : Tm, va = [t.val] ∧ t.size ≤ 200 ∧ ∀ S', Ext S S' → R (t.idx []).val S'
theorem isI_st {xs : List Val} {S : Store} : isI "str" (.tup xs) S = false := rfl
theorem isI_ss {s : Str} {S : Store} : isI "str" (.str s) S = true := rfl
theorem Tm.ty (t : Tm) (S : Store) : tyOk t.val S := by cases t <;> rfl
theorem pf_raw_indexed {K : PySem.W.Frag} : ∀ va S R RE, sp_raw_indexed K va S R RE → rd_raw_indexed K (D0 R RE) (astart N_raw_indexed va) S := by
  rintro va S0 R RE ⟨t, rfl, hs, ret⟩
  unfold rd_raw_indexed
  refine cut2 (fun es S => ∃ f w d ba, es = [some t.val, some (.ref f), some (.ref w), some (.ref d), none, none, none] ∧ f ≠ w ∧ f ≠ d ∧ w ≠ d ∧ f ≠ ba ∧ w ≠ ba ∧ d ≠ ba ∧ S0 f = none ∧ S0 w = none ∧ S0 d = none ∧ Ext S0 S ∧ S f = some (.dt []) ∧ S w = some (.lst [ent3 (⟨[], t, []⟩, ba)]) ∧ S d = some (.lst []) ∧ S ba = some (.ft [])) (fun N hN => ?_) ?_
  · simp! only []
    intro f hf
    refine ⟨by decide, by decide, fun ba hba => ⟨by decide, by decide, fun w hw => ⟨by decide, fun d hd => hN _ _ ⟨f, w, d, ba, rfl, ?_⟩⟩⟩⟩
    have hfba : f ≠ ba := ne_of_new ups_same hba
    have hbaw : ba ≠ w := ne_of_new ups_same hw
    have hfw : f ≠ w := ne_of_new (Ext.new hba _ _ ups_same) hw
    have hwd : w ≠ d := ne_of_new ups_same hd
    have hbad : ba ≠ d := ne_of_new (Ext.new hw _ _ ups_same) hd
    have hfd : f ≠ d := ne_of_new (Ext.new hw _ _ (Ext.new hba _ _ ups_same)) hd
    have X1 := Ext.new (c := .dt []) hf
    have X2 := X1.trans (.new (c := .ft []) hba)
    refine ⟨hfw, hfd, hwd, hfba, Ne.symm hbaw, Ne.symm hbad, hf, X2.none hw, ((X2.trans (.new hw))).none hd, ((X2.trans (.new hw))).trans (.new hd), ?_, ?_, ups_same, ?_⟩
    · rw [ups_ne hfd, ups_ne hfw, ups_ne hfba, ups_same]
    · rw [ups_ne hwd, ups_same]
      rfl
    · rw [ups_ne hbad, ups_ne hbaw, ups_same]
  rintro _ S ⟨f, w, d, ba, rfl, hfw, hfd, hwd, hfba, hwba, hdba, f0, w0, d0, X, hf, hw, hd, hba⟩
  refine cut2 (fun es S => ∃ o4 o5 o6, es = [some t.val, some (.ref f), some (.ref w), some (.ref d), o4, o5, o6] ∧ Ext S0 S ∧ S f = some (.dt ((preT t [] []).foldl leaf1 [])) ∧ S d = some (.lst ((preT t [] []).map ent2))) (fun N hN => ?_) ?_
  · refine ⟨fun n es S => ∃ (W : List (En × Addr)) (Dn : List En) (o4 o5 o6 : Option Val), es = [some t.val, some (.ref f), some (.ref w), some (.ref d), o4, o5, o6] ∧ n = wsum W ∧ Ext S0 S ∧ S f = some (.dt (Dn.foldl leaf1 [])) ∧ S w = some (.lst (W.map ent3)) ∧ S d = some (.lst (Dn.map ent2)) ∧
      (∀ e, e ∈ W → S e.2 = some (.ft (e.1.b.map .str)) ∧ e.2 ≠ f ∧ e.2 ≠ w ∧ e.2 ≠ d) ∧ Dn ++ (W.reverse.flatMap fun e => e.1.pre) = preT t [] [],
      ⟨t.size, [(⟨[], t, []⟩, ba)], [], _, _, _, rfl, by simp [wsum], X, hf, hw, hd, fun e he => by
        have := List.mem_singleton.mp he
        subst this
        exact ⟨hba, Ne.symm hfba, Ne.symm hwba, Ne.symm hdba⟩, by simp [En.pre]⟩, ?_⟩
    clear X hf hw hd hba
    rintro n _ S ⟨W, Dn, o4, o5, o6, rfl, hn, X, hf, hw, hd, hb, hpre⟩
    dsimp! only [hw, List.length_map]
    refine ifD (fun q => ?_) (fun q => ?_)
    · obtain ⟨W', ⟨e, a⟩, rfl⟩ : ∃ W' e, W = W' ++ [e] := by
        rcases List.eq_nil_or_concat W with h | ⟨W', e, h⟩
        · subst h; simp at q
        · exact ⟨W', e, by simpa using h⟩
      have hpre2 : (Dn ++ [e]) ++ (e.kids.reverse.flatMap En.pre ++ W'.reverse.flatMap fun e => e.1.pre) = preT t [] [] := by
        rw [← hpre]
        simp [En.pre_eq e]
      have hlen : Dn.length + 1 + W'.length ≤ 400 := by
        have h1 := congrArg List.length hpre2
        rw [preT_len] at h1
        have h2 : ∀ l : List (En × Addr), l.length ≤ (l.flatMap fun e => e.1.pre).length := fun l => by
          induction l with
          | nil => exact Nat.le_refl _
          | cons e l ih =>
            have h3 : e.1.pre.length = e.1.t.size := preT_len _ _ _
            have h4 := e.1.t.size_pos
            simp only [List.flatMap_cons, List.length_append, List.length_cons]
            omega
        have h3 := h2 W'.reverse
        simp only [List.length_append, List.length_cons, List.length_nil, List.length_reverse] at h1 h3
        omega
      obtain ⟨hp1, hp2⟩ := preT_in t [] [] e (by rw [← hpre2]; simp)
      simp only [List.length_nil, Nat.zero_add, Nat.add_zero] at hp1 hp2
      obtain ⟨ha, haf, haw, had⟩ := hb (e, a) (by simp)
      have es : wsum (W' ++ [(e, a)]) = wsum W' + e.t.size := by simp [wsum]
      have tp := e.t.size_pos
      refine cut2 (fun es S1 => es = [some t.val, some (.ref f), some (.ref w), some (.ref d), some (pathV e.p), some e.t.val, some (.ref a)] ∧ S1 = ups S w (.lst (W'.map ent3))) (fun N hN => ?_) ?_
      · simp! only [hw, List.map_append, List.getLast?_concat, List.dropLast_concat, ent3]
        exact ⟨trivial, trivial, trivial, hN _ _ ⟨rfl, rfl⟩⟩
      rintro _ _ ⟨rfl, rfl⟩
      refine cut2 (fun es S1 => es = [some t.val, some (.ref f), some (.ref w), some (.ref d), some (pathV e.p), some e.t.val, some (.ref a)] ∧ S1 = ups (ups S w (.lst (W'.map ent3))) d (.lst ((Dn ++ [e]).map ent2))) (fun N hN => ?_) ?_
      · simp! only [hd, Ne.symm hwd, List.length_map]
        refine ⟨trivial, by decide, by simp only [sizeLine]; omega, hN _ _ ⟨rfl, by rw [List.map_append]; rfl⟩⟩
      rintro _ _ ⟨rfl, rfl⟩
      have X1 : Ext S0 (ups (ups S w (.lst (W'.map ent3))) d (.lst ((Dn ++ [e]).map ent2))) := (X.put w0).put d0
      have f1 : ups (ups S w (.lst (W'.map ent3))) d (.lst ((Dn ++ [e]).map ent2)) f = some (.dt (Dn.foldl leaf1 [])) := by rw [ups_ne hfd, ups_ne hfw, hf]
      have w1 : ups (ups S w (.lst (W'.map ent3))) d (.lst ((Dn ++ [e]).map ent2)) w = some (.lst (W'.map ent3)) := by rw [ups_ne hwd, ups_same]
      have d1 : ups (ups S w (.lst (W'.map ent3))) d (.lst ((Dn ++ [e]).map ent2)) d = some (.lst ((Dn ++ [e]).map ent2)) := ups_same
      have a1 : ups (ups S w (.lst (W'.map ent3))) d (.lst ((Dn ++ [e]).map ent2)) a = some (.ft (e.b.map .str)) := by rw [ups_ne had, ups_ne haw]; exact ha
      have b1 : ∀ c, c ∈ W' → ups (ups S w (.lst (W'.map ent3))) d (.lst ((Dn ++ [e]).map ent2)) c.2 = some (.ft (c.1.b.map .str)) ∧ c.2 ≠ f ∧ c.2 ≠ w ∧ c.2 ≠ d := fun c hc => by
        obtain ⟨h1, h2, h3, h4⟩ := hb c (by simp [hc])
        exact ⟨by rw [ups_ne h4, ups_ne h3]; exact h1, h2, h3, h4⟩
      generalize ups (ups S w (.lst (W'.map ent3))) d (.lst ((Dn ++ [e]).map ent2)) = S1 at X1 f1 w1 d1 a1 b1
      clear X hf hw hd hb ha q
      have fl : (Dn.foldl leaf1 []).length ≤ 400 := by
        have := foldl_len leaf1_len Dn []
        simp only [List.length_nil, Nat.zero_add] at this
        omega
      refine hide fun N hN => ?_
      obtain ⟨p, u, b⟩ := e
      dsimp only at hp1 hp2 a1 hpre2 tp es ⊢
      cases u with
      | v s =>
        have put : ∀ v, v = ((Tm.v s).idx b).val → N [some t.val, some (.ref f), some (.ref w), some (.ref d), some (pathV p), some (.str s), some (.ref a)] (ups S1 f (.dt (putA (Dn.foldl leaf1 []) (keyP p) v))) := fun v hv => by
          refine hN _ _ ⟨wsum W', by omega, W', Dn ++ [⟨p, .v s, b⟩], _, _, _, rfl, rfl, X1.put f0, ?_, by rw [ups_ne (Ne.symm hfw)]; exact w1, by rw [ups_ne (Ne.symm hfd)]; exact d1, fun c hc => ?_, ?_⟩
          · rw [ups_same, List.foldl_append, hv]
            rfl
          · obtain ⟨h1, h2⟩ := b1 c hc
            exact ⟨by rw [ups_ne h2.1]; exact h1, h2⟩
          · rw [← hpre2]
            simp [En.kids]
        simp! only [isI_ss, Tm.val]
        refine ⟨rfl, ?_⟩
        simp! only [a1, flat_strs, inF_strs, flat]
        refine ⟨trivial, trivial, ?_⟩
        refine ifD (fun hm => ?_) fun hm => ?_
        · refine ⟨⟨a, _, rfl, a1⟩, b, b.idxOf s, a1, ?_, ?_, ?_⟩
          · exact (idxOf_at hm).1
          · exact (idxOf_at hm).2
          · simp! only [f1, putP]
            exact ⟨by simp only [sizeLine]; omega, put _ (by simp only [Tm.idx, if_pos hm, Ix.val])⟩
        · simp! only [f1, putP]
          exact ⟨by simp only [sizeLine]; omega, put _ (by simp only [Tm.idx, if_neg hm, Ix.val])⟩
      | a g x =>
        have f2 : ((Dn ++ [(⟨p, .a g x, b⟩ : En)]).foldl leaf1 []) = Dn.foldl leaf1 [] := by
          rw [List.foldl_append]
          rfl
        have i0 : L2.atI [Val.str "of", g.val, x.val] 0 = some (.str "of") := rfl
        have i1 : L2.atI [Val.str "of", g.val, x.val] 1 = some g.val := rfl
        have i2 : L2.atI [Val.str "of", g.val, x.val] 2 = some x.val := rfl
        have hml : (p.map fun n : Nat => Val.int (n : Int)).length + 1 ≤ sizeLine := by rw [List.length_map]; simp only [sizeLine]; omega
        have hk : (⟨p, .a g x, b⟩ : En).kids = [⟨p ++ [0], g, b⟩, ⟨p ++ [1], x, b⟩] := rfl
        simp! only [isI_st, Tm.val, i0, i1, i2]
        refine ⟨rfl, ?_⟩
        refine ifD (fun _ => ?_) (fun z => absurd trivial z)
        simp! only [w1]
        refine ⟨trivial, by decide, hml, by decide, by decide, hml, by decide, by decide, fun r hr => ?_⟩
        have hwr : w ≠ r := ne_of_new w1 hr
        rw [ups_ne hwr, w1]
        simp! only [List.length_map]
        refine ⟨by simp only [sizeLine]; omega, hN _ _ ⟨wsum (W' ++ [(⟨p ++ [0], g, b⟩, a), (⟨p ++ [1], x, b⟩, a)]), ?_, W' ++ [(⟨p ++ [0], g, b⟩, a), (⟨p ++ [1], x, b⟩, a)], Dn ++ [⟨p, .a g x, b⟩], _, _, _, rfl, rfl, (X1.trans (.new hr)).put w0, ?_, ?_, ?_, fun c hc => ?_, ?_⟩⟩
        · have e9 : wsum (W' ++ [(⟨p ++ [0], g, b⟩, a), (⟨p ++ [1], x, b⟩, a)]) = wsum W' + (g.size + x.size) := by simp [wsum]
          rw [e9, hn, es]
          simp only [Tm.size]
          omega
        · rw [ups_ne hfw, ups_ne (ne_of_new f1 hr), f1, f2]
        · rw [ups_same, List.map_append]
          simp only [List.map_cons, List.map_nil, ent3, pathV]
          rw [← path_app p 0, ← path_app p 1]
          rfl
        · rw [ups_ne (Ne.symm hwd), ups_ne (ne_of_new d1 hr), d1]
        · have stay : ∀ q, q ≠ w → ∀ c, S1 q = some c → (ups (ups S1 r (.lst [.tup [.tup ((p.map fun n : Nat => Val.int (n : Int)) ++ [.int 0]), g.val, .ref a], .tup [.tup ((p.map fun n : Nat => Val.int (n : Int)) ++ [.int 1]), x.val, .ref a]])) w (.lst (W'.map ent3 ++ [.tup [.tup ((p.map fun n : Nat => Val.int (n : Int)) ++ [.int 0]), g.val, .ref a], .tup [.tup ((p.map fun n : Nat => Val.int (n : Int)) ++ [.int 1]), x.val, .ref a]]))) q = some c := fun q hq c h => by
            rw [ups_ne hq, ups_ne (ne_of_new h hr), h]
          rcases List.mem_append.mp hc with hc | hc
          · obtain ⟨h1, h2, h3, h4⟩ := b1 c hc
            exact ⟨stay _ h3 _ h1, h2, h3, h4⟩
          · simp only [List.mem_cons, List.not_mem_nil, or_false] at hc
            rcases hc with rfl | rfl
            · exact ⟨stay _ haw _ a1, haf, haw, had⟩
            · exact ⟨stay _ haw _ a1, haf, haw, had⟩
        · rw [← hpre2, hk]
          simp
      | l s c =>
        have f2 : ((Dn ++ [(⟨p, .l s c, b⟩ : En)]).foldl leaf1 []) = Dn.foldl leaf1 [] := by
          rw [List.foldl_append]
          rfl
        have i0 : L2.atI [Val.str "with", Val.str s, c.val] 0 = some (.str "with") := rfl
        have i1 : L2.atI [Val.str "with", Val.str s, c.val] 1 = some (.str s) := rfl
        have i2 : L2.atI [Val.str "with", Val.str s, c.val] 2 = some c.val := rfl
        have hml : (p.map fun n : Nat => Val.int (n : Int)).length + 1 ≤ sizeLine := by rw [List.length_map]; simp only [sizeLine]; omega
        have hk : (⟨p, .l s c, b⟩ : En).kids = [⟨p ++ [0], c, s :: b⟩] := rfl
        have fin : ∀ (r : Addr) (S2 : Store), Ext S1 S2 → S2 r = some (.ft ((s :: b).map .str)) → r ≠ w → r ≠ f → r ≠ d → N [some t.val, some (.ref f), some (.ref w), some (.ref d), some (pathV p), some (.tup [.str "with", .str s, c.val]), some (.ref a)] (ups S2 w (.lst (W'.map ent3 ++ [.tup [.tup ((p.map fun n : Nat => Val.int (n : Int)) ++ [.int 0]), c.val, .ref r]]))) := fun r S2 X2 hr hrw hrf hrd => by
          refine hN _ _ ⟨wsum (W' ++ [(⟨p ++ [0], c, s :: b⟩, r)]), ?_, W' ++ [(⟨p ++ [0], c, s :: b⟩, r)], Dn ++ [⟨p, .l s c, b⟩], _, _, _, rfl, rfl, (X1.trans X2).put w0, ?_, ?_, ?_, fun c hc => ?_, ?_⟩
          · have e9 : wsum (W' ++ [(⟨p ++ [0], c, s :: b⟩, r)]) = wsum W' + c.size := by simp [wsum]
            rw [e9, hn, es]
            simp only [Tm.size]
            omega
          · rw [ups_ne hfw, X2 _ _ f1, f2]
          · rw [ups_same, List.map_append]
            simp only [List.map_cons, List.map_nil, ent3, pathV]
            rw [← path_app p 0]
            rfl
          · rw [ups_ne (Ne.symm hwd), X2 _ _ d1]
          · rcases List.mem_append.mp hc with hc | hc
            · obtain ⟨h1, h2, h3, h4⟩ := b1 c hc
              exact ⟨by rw [ups_ne h3]; exact X2 _ _ h1, h2, h3, h4⟩
            · have := List.mem_singleton.mp hc
              subst this
              exact ⟨by rw [ups_ne hrw]; exact hr, hrf, hrw, hrd⟩
          · rw [← hpre2, hk]
            simp
        simp! only [isI_st, Tm.val, i0, i1, i2]
        refine ⟨rfl, ?_⟩
        refine ifD (fun z => absurd z (by decide)) (fun _ => ?_)
        simp! only [w1]
        refine ⟨trivial, by decide, hml, by decide, fun r hr => ?_⟩
        have hwr : w ≠ r := ne_of_new w1 hr
        refine ⟨[.str s], b.map .str, ups_same, by rw [ups_ne (ne_of_new a1 hr)]; exact a1, by simp only [List.length_map, List.length_cons, List.length_nil, sizeLine]; omega, by simp, fun z => ?_, fun z r2 hr2 => ?_⟩
        · have zb : b = [] := by simpa using z
          subst zb
          dsimp only
          rw [ups_ne hwr, w1]
          simp! only [List.length_map]
          exact ⟨by decide, by simp only [sizeLine]; omega, fin r _ (.new hr) ups_same (Ne.symm hwr) (Ne.symm (ne_of_new f1 hr)) (Ne.symm (ne_of_new d1 hr))⟩
        · have X3 : Ext S1 (ups (ups S1 r (.ft [.str s])) r2 (.ft ([.str s] ++ b.map .str))) := (Ext.new hr).trans (.new hr2)
          dsimp only
          rw [X3 _ _ w1]
          simp! only [List.length_map]
          have n2 : ∀ q c, S1 q = some c → r2 ≠ q := fun q c h => Ne.symm (ne_of_new ((Ext.new (c := .ft [.str s]) hr) _ _ h) hr2)
          exact ⟨by decide, by simp only [sizeLine]; omega, fin r2 _ X3 ups_same (n2 _ _ w1) (n2 _ _ f1) (n2 _ _ d1)⟩
    · have hW : W = [] := by
        cases W with
        | nil => rfl
        | cons a b => simp at q
      subst hW
      have : Dn = preT t [] [] := by simpa using hpre
      subst this
      exact hN _ _ ⟨_, _, _, rfl, X, hf, hd⟩
  clear X hf hw hd hba
  rintro _ S ⟨o4, o5, o6, rfl, X, hf, hd⟩
  obtain ⟨lf, _⟩ := leaves t [] [] []
  obtain ⟨n1, n2, _⟩ := nodes2 t [] [] _ lf
  have l0 := foldl_len leaf1_len (preT t [] []) []
  have hpl := preT_len t [] []
  generalize hk0 : (preT t [] []).foldl leaf1 [] = kv0 at *
  simp only [List.length_nil, Nat.zero_add] at l0
  refine cut2 (fun es S => ∃ kvs o4 o5, es = [some t.val, some (.ref f), some (.ref w), some (.ref d), o4, o5, o6] ∧ Ext S0 S ∧ S f = some (.dt kvs) ∧ valA kvs (keyP []) = some (t.idx []).val) (fun N hN => ?_) ?_
  · refine for_rest fun M hM => ?_
    simp! only [hd]
    intro r hr
    have hfr : f ≠ r := ne_of_new hf hr
    refine hM _ _ ⟨fun l es S => ∃ (kvs : Dct) (E : List En) (o4 o5 : Option Val), l = E.map ent2 ∧ es = [some t.val, some (.ref f), some (.ref w), some (.ref d), o4, o5, o6] ∧ Ext S0 S ∧ S f = some (.dt kvs) ∧ S r = some (.lst ((preT t [] []).map ent2).reverse) ∧ okF kvs E ∧ valA (E.foldl node2 kvs) (keyP []) = some (t.idx []).val ∧ kvs.length + E.length ≤ 500 ∧ (∀ e, e ∈ E → e.p.length ≤ 300),
      ⟨kv0, (preT t [] []).reverse, _, _, by rw [List.map_reverse], rfl, X.trans (.new hr), by rw [ups_ne hfr]; exact hf, ups_same, n1, n2, by rw [List.length_reverse]; omega, fun e he => by
        have := (preT_in t [] [] e (List.mem_reverse.mp he)).1
        simp only [List.length_nil] at this
        omega⟩, ?_, ?_, ?_⟩
    · rintro l es S ⟨kvs, E, o4, o5, _, _, _, _, h, _⟩
      exact .inl h
    · rintro y l _ S ⟨kvs, E, o4, o5, hE, rfl, X, hf, hr', hok, hval, hlen, hpl⟩
      cases E with
      | nil => cases hE
      | cons e E =>
        simp only [List.map_cons, List.cons.injEq] at hE
        obtain ⟨rfl, rfl⟩ := hE
        obtain ⟨h1, h2⟩ := hok
        have hp := hpl e (by simp)
        refine tup2 ?_
        simp only [List.set_cons_zero, List.set_cons_succ]
        have hrf : r ≠ f := Ne.symm hfr
        have nl := node2_len kvs e
        have hkl : kvs.length < sizeLine := by simp only [sizeLine]; omega
        simp only [List.length_cons] at hlen
        simp only [List.foldl_cons] at hval
        refine hide fun Q hQ => ?_
        have fin : ∀ S1, S1 f = some (.dt (node2 kvs e)) → Ext S0 S1 → S1 r = S r → Q [some t.val, some (.ref f), some (.ref w), some (.ref d), some (pathV e.p), some e.t.val, o6] S1 := fun S1 h3 h4 h5 =>
          hQ _ _ ⟨node2 kvs e, E, _, _, rfl, rfl, h4, h3, by rw [h5]; exact hr', h2, hval, by omega, fun c hc => hpl c (by simp [hc])⟩
        clear hQ hval hlen hpl h2
        obtain ⟨p, u, b⟩ := e
        dsimp only at hp fin h1 ⊢
        have hml : (p.map fun n : Nat => Val.int (n : Int)).length + 1 ≤ sizeLine := by rw [List.length_map]; simp only [sizeLine]; omega
        cases u with
        | v s =>
          simp! only [isI_ss, Tm.val]
          exact ⟨rfl, fin S hf X rfl⟩
        | a g x =>
          obtain ⟨⟨v1, g1⟩, v2, g2⟩ := h1
          have i0 : L2.atI [Val.str "of", g.val, x.val] 0 = some (.str "of") := rfl
          have g1' := getP1 (kvs := kvs) p 0
          have g2' := getP1 (kvs := kvs) p 1
          rw [g1] at g1'
          rw [g2] at g2'
          simp! only [isI_st, Tm.val, i0]
          refine ⟨rfl, ?_⟩
          refine ifD (fun _ => ?_) (fun z => absurd trivial z)
          have g1'' : getD? (.dt kvs) (.tup ((p.map fun n : Nat => Val.int (n : Int)) ++ [Val.int 0])) = some (some v1) := g1'
          have g2'' : getD? (.dt kvs) (.tup ((p.map fun n : Nat => Val.int (n : Int)) ++ [Val.int 1])) = some (some v2) := g2'
          simp! only [hf, g1'', g2'', putP]
          refine ⟨by decide, hml, by decide, hml, by decide, hkl, ?_⟩
          refine fin _ ?_ (X.put f0) (by rw [ups_ne hrf])
          rw [ups_same]
          simp only [node2, gV, g1, g2, Option.getD_some]
        | l s c =>
          obtain ⟨v1, g1⟩ := h1
          have i0 : L2.atI [Val.str "with", Val.str s, c.val] 0 = some (.str "with") := rfl
          have g1' := getP1 (kvs := kvs) p 0
          rw [g1] at g1'
          simp! only [isI_st, Tm.val, i0]
          refine ⟨rfl, ?_⟩
          refine ifD (fun z => absurd z (by decide)) (fun _ => ?_)
          have g1'' : getD? (.dt kvs) (.tup ((p.map fun n : Nat => Val.int (n : Int)) ++ [Val.int 0])) = some (some v1) := g1'
          simp! only [hf, g1'', putP]
          refine ⟨by decide, hml, by decide, hkl, ?_⟩
          refine fin _ ?_ (X.put f0) (by rw [ups_ne hrf])
          rw [ups_same]
          simp only [node2, gV, g1, Option.getD_some]
    · rintro _ S ⟨kvs, E, o4, o5, hE, rfl, X, hf, hr', hok, hval, hlen, hpl⟩
      cases E with
      | nil => exact hN _ _ ⟨kvs, _, _, rfl, X, hf, hval⟩
      | cons e E => cases hE
  rintro _ S ⟨kvs, o4, o5, rfl, X, hf, hval⟩
  have e0 : getD? (.dt kvs) (.tup []) = some (some (t.idx []).val) := by
    rw [← hval]
    rfl
  simp! only [hf, e0]
  exact ⟨by decide, ret S X⟩
end G

set_option Elab.async false
set_option linter.all false
set_option maxRecDepth 100000
set_option maxHeartbeats 1000000
set_option exponentiation.threshold 1000
namespace G
open PySem A3
/-- numbered terms: so deep, of so many parts -/
inductive Idx : Nat → Nat → Val → Prop
  | var {d i : Nat} : i < d → Idx d 1 (.int (i : Int))
  | nm {d : Nat} {s : Str} : Idx d 1 (.str s)
  | of {d s t : Nat} {f a : Val} : Idx d s f → Idx d t a → Idx d (s + t + 1) (.tup [.str "of", f, a])
  | wi {d s : Nat} {b : Val} : Idx (d + 1) s b → Idx d (s + 1) (.tup [.str "with", b])
theorem Idx.pos {d s : Nat} {x : Val} (h : Idx d s x) : 1 ≤ s := by cases h <;> omega
/-- such terms with a sum of parts -/
inductive Idxs : Nat → List Val → Prop
  | nil : Idxs 0 []
  | cons {d s m : Nat} {x : Val} {xs : List Val} : Idx d s x → Idxs m xs → Idxs (s + m) (x :: xs)
theorem Idxs.app {m n : Nat} {xs ys : List Val} (h : Idxs m xs) (k : Idxs n ys) : Idxs (m + n) (xs ++ ys) := by
  induction h with
  | nil => rw [Nat.zero_add]; exact k
  | cons h _ ih => rw [Nat.add_assoc]; exact .cons h ih
theorem Idxs.last {m : Nat} {xs : List Val} (h : Idxs m xs) (hx : xs ≠ []) : ∃ d s n x, xs.getLast? = some x ∧ Idx d s x ∧ Idxs n xs.dropLast ∧ m = s + n := by
  induction h with
  | nil => exact absurd rfl hx
  | @cons d s m x xs h hs ih =>
    cases xs with
    | nil =>
      cases hs
      exact ⟨d, s, 0, x, rfl, h, .nil, rfl⟩
    | cons y ys =>
      obtain ⟨d', s', n, z, e1, e2, e3, e4⟩ := ih (by simp)
      refine ⟨d', s', s + n, z, by simpa using e1, e2, ?_, by omega⟩
      exact .cons h e3
theorem Idxs.len {m : Nat} {xs : List Val} (h : Idxs m xs) : xs.length ≤ m := by
  induction h with
  | nil => exact Nat.le_refl _
  | cons h _ ih =>
    have := h.pos
    simp only [List.length_cons]
    omega
theorem cutA_1 {xs : List Val} : cutA xs (some 1) none = xs.drop 1 := cutA_drop (k := 1)
theorem Idx.tyOk {d s : Nat} {x : Val} (h : Idx d s x) (S : Store) : tyOk x S := by cases h <;> rfl
/-- the names in it -/
def nmsV : Val → List Str
  | .str s => [s]
  | .tup [_, f, a] => nmsV f ++ nmsV a
  | .tup [_, b] => nmsV b
  | _ => []
theorem putA_keys {κ : Type} [DecidableEq κ] {kvs : List (κ × Val)} {k : κ} {v : Val} : (putA kvs k v).map (·.1) = if k ∈ kvs.map (·.1) then kvs.map (·.1) else kvs.map (·.1) ++ [k] := by
  unfold putA
  have e : (kvs.any fun kv => decide (kv.1 = k)) = true ↔ k ∈ kvs.map (·.1) := by
    simp only [List.any_eq_true, decide_eq_true_eq, List.mem_map]
  by_cases h : k ∈ kvs.map (·.1)
  · rw [if_pos h, if_pos (e.mpr h), List.map_map]
    apply List.map_congr_left
    intro a _
    show (if a.1 = k then (a.1, v) else a).1 = a.1
    split <;> rfl
  · rw [if_neg h, if_neg (fun z => h (e.mp z)), List.map_append]
    rfl
def sp_free_of_indexed (K : PySem.W.Frag) : ASp := fun va S R _ => ∃ x d s, ∃ l : List Str, va = [x] ∧ Idx d s x ∧ s ≤ 4000 ∧ (∀ k : Str, k ∈ nmsV x → k ∈ l) ∧ l.length ≤ 60 ∧ ∀ p S' (ys : List Str), Ext S S' → S p = none → S' p = some (.lst (ys.map .str)) → PyProof.Rows.sortedS ys = true → ys.Nodup → (∀ k, k ∈ ys ↔ k ∈ nmsV x) → ys.length ≤ s → R (.ref p) S'
theorem pf_free_of_indexed {K : PySem.W.Frag} : ∀ va S R RE, sp_free_of_indexed K va S R RE → rd_free_of_indexed K (sp_is_integer K) (D0 R RE) (astart N_free_of_indexed va) S := by
  rintro va S0 R RE ⟨x, d, s, l, rfl, hx, hs, hl, hll, r⟩
  unfold rd_free_of_indexed
  simp! only []
  intro f hf
  refine ⟨by decide, fun w hw => ?_⟩
  have hwf : w ≠ f := fun e => by rw [e, ups_same] at hw; cases hw
  have hfw := Ne.symm hwf
  refine ⟨fun m es S => ∃ (xs : List Val) (ks : List Str) (kvs : List (L2.Key × Val)) (o3 : Option Val), es = [some x, some (.ref f), some (.ref w), o3] ∧ Ext S0 S ∧ S f = some (.dk kvs) ∧ kvs.map (·.1) = ks.map Sum.inr ∧ ks.Nodup ∧ S w = some (.lst xs) ∧ Idxs m xs ∧ m + ks.length ≤ s ∧ ∀ k, (k ∈ ks ∨ k ∈ xs.flatMap nmsV) ↔ k ∈ nmsV x, ⟨s, [x], [], [], _, rfl, ?_, ?_, rfl, .nil, ups_same, .cons hx .nil, Nat.le_refl _, fun k => by simp⟩, ?_⟩
  · exact (Ext.new hf).trans (.new hw)
  · rw [ups_ne hfw, ups_same]
  · rintro m _ S ⟨xs, ks, kvs, o3, rfl, X, h1, hk1, hk2, h2, h3, h4, h5⟩
    have hkl : kvs.length = ks.length := by
      have := congrArg List.length hk1
      simpa using this
    simp! only [h2]
    refine ifD (fun q => ?_) fun q => ?_
    · obtain ⟨d', s', n, y, e1, e2, e3, e4⟩ := h3.last (fun e => by subst e; simp at q)
      have exs : xs = xs.dropLast ++ [y] := by
        have hne : xs ≠ [] := fun e => by subst e; cases e1
        rw [List.getLast?_eq_some_getLast hne] at e1
        have h := Option.some.inj e1
        rw [← h]; exact (List.dropLast_concat_getLast hne).symm
      have hfm : ∀ k, k ∈ xs.flatMap nmsV ↔ k ∈ xs.dropLast.flatMap nmsV ∨ k ∈ nmsV y := fun k => by
        have e := congrArg (List.flatMap nmsV) exs
        rw [List.flatMap_append] at e
        rw [e, List.mem_append]
        simp
      simp! only [h2, e1]
      refine ⟨trivial, e2.tyOk _, ?_⟩
      have hpos := e2.pos
      have hw0 : S0 w = none := (Ext.new hf).none hw
      have hf0 : S0 f = none := hf
      have hl := h3.len
      have hdl : xs.dropLast.length ≤ 4000 := by rw [List.length_dropLast]; omega
      have fin : ∀ n' ys, Idxs n' ys → n' < m → (∀ k, (k ∈ ks ∨ k ∈ ys.flatMap nmsV) ↔ k ∈ nmsV x) → ∃ m', m' < m ∧ ∃ (xs : List Val) (ks : List Str) (kvs : List (L2.Key × Val)) (o3 : Option Val), [some x, some (Val.ref f), some (Val.ref w), some y] = [some x, some (Val.ref f), some (Val.ref w), o3] ∧ Ext S0 (ups S w (.lst ys)) ∧ ups S w (.lst ys) f = some (.dk kvs) ∧ kvs.map (·.1) = ks.map Sum.inr ∧ ks.Nodup ∧ ups S w (.lst ys) w = some (.lst xs) ∧ Idxs m' xs ∧ m' + ks.length ≤ s ∧ ∀ k, (k ∈ ks ∨ k ∈ xs.flatMap nmsV) ↔ k ∈ nmsV x := fun n' ys k1 k2 k3 =>
        ⟨n', k2, ys, ks, kvs, _, rfl, X.put hw0, by rw [ups_ne hfw]; exact h1, hk1, hk2, ups_same, k1, by omega, k3⟩
      cases e2 with
      | var _ =>
        rw [show isI "str" (.int _) _ = false by simp [isI, tyV?, subTy]]
        simp! only []
        refine ⟨_, rfl, rfl, ?_⟩
        simp only [isInt]
        simp! only []
        have z := fin _ _ e3 (by omega) (fun k => by rw [← h5 k, hfm k]; simp [nmsV])
        simp only [ups_same] at z
        exact z
      | @nm _ z =>
        rw [show isI "str" (.str z) _ = true from rfl]
        have ep : putD? (.dk kvs) (.str z) (.bl true) = some (.dk (putA kvs (.inr z) (.bl true))) := rfl
        simp! only [h1, hfw, ep]
        refine ⟨by rw [hkl]; simp only [sizeLine]; omega, ?_⟩
        have hin : (Sum.inr z ∈ kvs.map (·.1)) ↔ z ∈ ks := by
          rw [hk1, List.mem_map]
          constructor
          · rintro ⟨a, ha, e⟩; cases e; exact ha
          · exact fun h => ⟨z, h, rfl⟩
        by_cases hz : z ∈ ks
        · refine ⟨n, by omega, _, ks, _, _, rfl, (X.put hw0).put hf0, rfl, by rw [putA_keys, if_pos (hin.mpr hz)]; exact hk1, hk2, by first | rfl | rw [ups_ne hwf, ups_same], e3, by omega, fun k => ?_⟩
          rw [← h5 k, hfm k]
          constructor
          · rintro (a | a)
            · exact .inl a
            · exact .inr (.inl a)
          · rintro (a | a | a)
            · exact .inl a
            · exact .inr a
            · have : k = z := by simpa [nmsV] using a
              exact .inl (this ▸ hz)
        · refine ⟨n, by omega, _, ks ++ [z], _, _, rfl, (X.put hw0).put hf0, rfl, by rw [putA_keys, if_neg (fun q => hz (hin.mp q)), List.map_append, hk1]; rfl, ?_, by first | rfl | rw [ups_ne hwf, ups_same], e3, by simp; omega, fun k => ?_⟩
          · rw [List.nodup_append]
            exact ⟨hk2, by simp, fun a ha b hb e => hz (by rw [List.mem_singleton.mp hb] at e; exact e ▸ ha)⟩
          rw [← h5 k, hfm k]
          simp only [List.mem_append, List.mem_singleton, nmsV]
          constructor
          · rintro ((a | a) | a)
            · exact .inl a
            · exact .inr (.inr a)
            · exact .inr (.inl a)
          · rintro (a | a | a)
            · exact .inl (.inl a)
            · exact .inr a
            · exact .inl (.inr a)
      | @of _ s1 s2 f' a' k1 k2 =>
        rw [show isI "str" (.tup _) _ = false from rfl]
        simp! only []
        refine ⟨_, rfl, rfl, ?_⟩
        simp only [isInt]
        simp! only [cutA_1, List.drop_succ_cons, List.drop_zero]
        refine ⟨trivial, by simp only [sizeLine]; omega, ?_⟩
        rw [ups_ups]
        have z := fin (n + (s1 + (s2 + 0))) _ (e3.app (.cons k1 (.cons k2 .nil))) (by omega) (fun k => by rw [← h5 k, hfm k]; simp [nmsV])
        simp only [ups_same] at z
        exact z
      | @wi _ s1 b k1 =>
        rw [show isI "str" (.tup _) _ = false from rfl]
        simp! only []
        refine ⟨_, rfl, rfl, ?_⟩
        simp only [isInt]
        simp! only [cutA_1, List.drop_succ_cons, List.drop_zero]
        refine ⟨trivial, by simp only [sizeLine]; omega, ?_⟩
        rw [ups_ups]
        have z := fin (n + (s1 + 0)) _ (e3.app (.cons k1 .nil)) (by omega) (fun k => by rw [← h5 k, hfm k]; simp [nmsV])
        simp only [ups_same] at z
        exact z
    · have hx0 : xs = [] := by
        cases xs with
        | nil => rfl
        | cons a b => simp at q
      subst hx0
      simp only [sortedSC]
      have hkl2 : ks.length ≤ l.length := len_le ks l hk2 fun k hk => hl k ((h5 k).mp (.inl hk))
      refine ⟨ks, .inr ⟨kvs, h1, hk1⟩, by omega, fun ys p hp hq hn => ?_⟩
      exact r p _ ys (X.trans (.new hn)) (X.none hn) ups_same hq (hp.nodup_iff.mpr hk2) (fun k => by rw [hp.mem_iff, ← h5 k]; simp) (by rw [hp.length_eq]; omega)
end G

set_option Elab.async false
set_option linter.all false
set_option maxRecDepth 100000
set_option maxHeartbeats 1000000
set_option exponentiation.threshold 1000
namespace G
open PySem A3
/-- a numbered term, so deep, and its term of names -/
inductive Nmd (F : Nat → Str) : Nat → Val → Val → Prop
  | var {d i : Nat} : i < d → Nmd F d (.int (i : Int)) (.str (F (d - 1 - i)))
  | nm {d : Nat} {s : Str} : Nmd F d (.str s) (.str s)
  | of {d : Nat} {f a f' a' : Val} : Nmd F d f f' → Nmd F d a a' → Nmd F d (.tup [.str "of", f, a]) (.tup [.str "of", f', a'])
  | wi {d : Nat} {b b' : Val} : Nmd F (d + 1) b b' → Nmd F d (.tup [.str "with", b]) (.tup [.str "with", .str (F d), b'])
/-- one step down -/
def step1 : Nat → Val → Nat → Option (Val × Nat)
  | 0, .tup [_, f, _], d => some (f, d)
  | 1, .tup [_, _, a], d => some (a, d)
  | 0, .tup [_, b], d => some (b, d + 1)
  | _, _, _ => none
/-- the part at a path, how deep it stands -/
def sub (x : Val) (d : Nat) : List Nat → Option (Val × Nat)
  | [] => some (x, d)
  | k :: p => (step1 k x d).bind fun y => sub y.1 y.2 p
theorem sub_snoc (k : Nat) : ∀ (p : List Nat) (x : Val) (d : Nat), sub x d (p ++ [k]) = (sub x d p).bind fun y => step1 k y.1 y.2
  | [], x, d => by
    simp only [List.nil_append, sub, Option.bind_some]
    cases step1 k x d <;> rfl
  | j :: p, x, d => by
    simp only [List.cons_append, sub]
    cases step1 j x d with
    | none => rfl
    | some y => simp only [Option.bind_some]; exact sub_snoc k p y.1 y.2
/-- a path, the part there, how deep -/
structure Ent where
  p : List Nat
  x : Val
  d : Nat
def ent (e : Ent) : Val := .tup [pathV e.p, e.x, .int (e.d : Int)]
structure Good (x0 : Val) (s0 : Nat) (e : Ent) (s : Nat) : Prop where
  at_ : sub x0 0 e.p = some (e.x, e.d)
  ix : Idx e.d s e.x
  ln : e.p.length + s ≤ s0
  dl : e.d ≤ e.p.length
def kids (e : Ent) : List Ent := match e.x with
  | .tup [_, f, a] => [⟨e.p ++ [0], f, e.d⟩, ⟨e.p ++ [1], a, e.d⟩]
  | .tup [_, b] => [⟨e.p ++ [0], b, e.d + 1⟩]
  | _ => []
inductive Goods (x0 : Val) (s0 : Nat) : Nat → List Ent → Prop
  | nil : Goods x0 s0 0 []
  | cons {e : Ent} {s m : Nat} {es : List Ent} : Good x0 s0 e s → Goods x0 s0 m es → Goods x0 s0 (s + m) (e :: es)
theorem Goods.app {x0 : Val} {s0 m n : Nat} {xs ys : List Ent} (h : Goods x0 s0 m xs) (k : Goods x0 s0 n ys) : Goods x0 s0 (m + n) (xs ++ ys) := by
  induction h with
  | nil => rw [Nat.zero_add]; exact k
  | cons h _ ih => rw [Nat.add_assoc]; exact .cons h ih
theorem Goods.last {x0 : Val} {s0 m : Nat} {xs : List Ent} (h : Goods x0 s0 m xs) (hx : xs ≠ []) : ∃ s n e ys, xs = ys ++ [e] ∧ Good x0 s0 e s ∧ Goods x0 s0 n ys ∧ m = s + n := by
  induction h with
  | nil => exact absurd rfl hx
  | @cons e s m xs h hs ih =>
    cases xs with
    | nil =>
      cases hs
      exact ⟨s, 0, e, [], rfl, h, .nil, rfl⟩
    | cons y ys =>
      obtain ⟨s', n, z, zs, e1, e2, e3, e4⟩ := ih (by simp)
      exact ⟨s', s + n, z, e :: zs, by rw [e1]; rfl, e2, .cons h e3, by omega⟩
theorem Goods.len {x0 : Val} {s0 m : Nat} {xs : List Ent} (h : Goods x0 s0 m xs) : xs.length ≤ m := by
  induction h with
  | nil => exact Nat.le_refl _
  | cons h _ ih =>
    have := h.ix.pos
    simp only [List.length_cons]
    omega
theorem Good.kids {x0 : Val} {s0 s : Nat} {e : Ent} (h : Good x0 s0 e s) : Goods x0 s0 (s - 1) (kids e) := by
  obtain ⟨p, x, d⟩ := e
  obtain ⟨h1, h2, h3, h4⟩ := h
  dsimp only at h1 h2 h3 h4
  have sn : ∀ k y, step1 k x d = some y → sub x0 0 (p ++ [k]) = some y := fun k y hy => by rw [sub_snoc, h1]; exact hy
  have pl : ∀ k : Nat, (p ++ [k]).length = p.length + 1 := fun k => by simp
  cases h2 with
  | var _ => exact .nil
  | nm => exact .nil
  | @of _ s t f a k1 k2 =>
    have e1 : s + t + 1 - 1 = s + (t + 0) := by omega
    rw [e1]
    exact .cons ⟨sn 0 _ rfl, k1, by simp only [pl]; omega, by simp only [pl]; omega⟩ (.cons ⟨sn 1 _ rfl, k2, by simp only [pl]; omega, by simp only [pl]; omega⟩ .nil)
  | @wi _ s b k1 =>
    have e1 : s + 1 - 1 = s + 0 := by omega
    rw [e1]
    exact .cons ⟨sn 0 _ rfl, k1, by simp only [pl]; omega, by simp only [pl]; omega⟩ .nil
/-- what is done, what waits -/
structure Walk (x0 : Val) (s0 m M : Nat) (W Dn : List Ent) : Prop where
  w : Goods x0 s0 m W
  dn : ∀ e, e ∈ Dn → (∃ s, Good x0 s0 e s) ∧ e.d ≤ M
  len : Dn.length + m = s0
  ml : M ≤ s0
  kid : ∀ (k : Nat) (e : Ent), Dn[k]? = some e → ∀ c, c ∈ kids e → c ∈ W ∨ ∃ k' : Nat, k < k' ∧ Dn[k']? = some c
  root : (⟨[], x0, 0⟩ : Ent) ∈ W ∨ (⟨[], x0, 0⟩ : Ent) ∈ Dn
theorem Walk.go {x0 : Val} {s0 m n s M : Nat} {W Dn : List Ent} {e : Ent} (h : Walk x0 s0 m M (W ++ [e]) Dn) (g : Good x0 s0 e s) (hw : Goods x0 s0 n W) (hm : m = s + n) : Walk x0 s0 (n + (s - 1)) (max M e.d) (W ++ kids e) (Dn ++ [e]) where
  w := hw.app g.kids
  dn := fun c hc => by
    rcases List.mem_append.mp hc with hc | hc
    · exact ⟨(h.dn c hc).1, Nat.le_trans (h.dn c hc).2 (Nat.le_max_left ..)⟩
    · rw [List.mem_singleton.mp hc]
      exact ⟨⟨s, g⟩, Nat.le_max_right ..⟩
  len := by
    have := h.len
    have := g.ix.pos
    simp
    omega
  ml := by
    have := h.ml
    have := g.dl
    have := g.ln
    omega
  kid := fun k c hk b hb => by
    rcases Nat.lt_or_ge k Dn.length with q | q
    · rw [List.getElem?_append_left q] at hk
      rcases h.kid k c hk b hb with h1 | ⟨k', h1, h2⟩
      · rcases List.mem_append.mp h1 with h1 | h1
        · exact .inl (List.mem_append_left _ h1)
        · rw [List.mem_singleton.mp h1]
          exact .inr ⟨Dn.length, q, by simp⟩
      · have := (List.getElem?_eq_some_iff.mp h2).1
        exact .inr ⟨k', h1, by rw [List.getElem?_append_left this]; exact h2⟩
    · rw [List.getElem?_append_right q] at hk
      have h0 : k - Dn.length = 0 := by
        rcases Nat.eq_zero_or_pos (k - Dn.length) with z | z
        · exact z
        · rw [List.getElem?_eq_none (by simp; omega)] at hk; cases hk
      rw [h0] at hk
      cases hk
      exact .inl (List.mem_append_right _ hb)
  root := by
    rcases h.root with h1 | h1
    · rcases List.mem_append.mp h1 with h1 | h1
      · exact .inl (List.mem_append_left _ h1)
      · exact .inr (List.mem_append_right _ h1)
    · exact .inr (List.mem_append_left _ h1)
/-- what is found of what is done, from i on -/
def FoundAt (F : Nat → Str) (Dn : List Ent) (kvs : List (List L2.Key × Val)) (i : Nat) : Prop := ∀ (k : Nat) (e : Ent), Dn[k]? = some e → i ≤ k → ∃ v, valA kvs (keyP e.p) = some v ∧ Nmd F e.d e.x v
theorem FoundAt.put {F : Nat → Str} {x0 : Val} {s0 M : Nat} {Dn : List Ent} {kvs : List (List L2.Key × Val)} {i : Nat} {e : Ent} {v : Val} (h : FoundAt F Dn kvs (i + 1)) (hw : Walk x0 s0 0 M [] Dn) (he : Dn[i]? = some e) (hv : Nmd F e.d e.x v) : FoundAt F Dn (putA kvs (keyP e.p) v) i := fun k c hc hk => by
  rw [valA_put]
  by_cases q : keyP e.p = keyP c.p
  · rw [if_pos q]
    have hp := keyP_inj q
    obtain ⟨⟨_, g1⟩, _⟩ := hw.dn e (List.mem_of_getElem? he)
    obtain ⟨⟨_, g2⟩, _⟩ := hw.dn c (List.mem_of_getElem? hc)
    have z := g1.at_
    rw [hp, g2.at_] at z
    simp only [Option.some.injEq, Prod.mk.injEq] at z
    rw [z.1, z.2]
    exact ⟨v, rfl, hv⟩
  · rw [if_neg q]
    have : k ≠ i := fun e' => by
      subst e'
      rw [he] at hc
      cases hc
      exact q rfl
    exact h k c hc (by omega)
theorem hintF {i : Int} {S : Store} : isI "str" (.int i) S = false := by simp [isI, tyV?, subTy]
theorem hstF {xs : List Val} {S : Store} : isI "str" (.tup xs) S = false := rfl
theorem hstT {z : Str} {S : Store} : isI "str" (.str z) S = true := rfl
/-- the names that are not among these, in order -/
def frL (l : List Str) : List Str := ((List.range 130).map nameAt).filter fun z => decide (z ∉ l)
def frF (l : List Str) (i : Nat) : Str := ((frL l)[i]?).getD Str.empty
theorem frL_congr {l m : List Str} (h : ∀ k, k ∈ l ↔ k ∈ m) : frL l = frL m := by
  unfold frL
  congr 1
  funext z
  rw [decide_eq_decide]
  exact not_congr (h z)
def frC (l : List Str) (c : Nat) : List Str := ((List.range c).map nameAt).filter fun z => decide (z ∉ l)
theorem names130 : ((List.range 130).map nameAt).Nodup := by decide +kernel
theorem frC_succ (l : List Str) (c : Nat) : frC l (c + 1) = frC l c ++ if nameAt c ∈ l then [] else [nameAt c] := by
  unfold frC
  rw [List.range_succ, List.map_append, List.filter_append]
  congr 1
  by_cases h : nameAt c ∈ l <;> simp [h]
theorem frC_pre (l : List Str) {c : Nat} (h : c ≤ 130) : frC l c <+: frL l := by
  unfold frC frL
  have e : List.range c <+: List.range 130 := by
    refine ⟨(List.range (130 - c)).map (c + ·), ?_⟩
    rw [← List.range_add]
    congr 1
    omega
  exact (e.map nameAt).filter _
theorem frC_at (l : List Str) {c i : Nat} (h : c ≤ 130) (hi : i < (frC l c).length) : (frC l c)[i]? = some (frF l i) := by
  obtain ⟨r, e⟩ := frC_pre l h
  unfold frF
  rw [← e, List.getElem?_append_left hi, List.getElem?_eq_getElem hi]
  rfl
/-- enough of them -/
theorem frC_len (l : List Str) {c : Nat} (h : c ≤ 130) : c ≤ (frC l c).length + l.length := by
  have nd : ((List.range c).map nameAt).Nodup := by
    have e : (List.range c).map nameAt <+: (List.range 130).map nameAt := by
      refine ⟨((List.range (130 - c)).map (c + ·)).map nameAt, ?_⟩
      rw [← List.map_append, ← List.range_add]
      congr 2
      omega
    exact List.Sublist.nodup e.sublist names130
  have h1 : ((List.range c).map nameAt).length ≤ (frC l c ++ l).length := len_le _ _ nd fun x hx => by
    by_cases q : x ∈ l
    · exact List.mem_append_right _ q
    · exact List.mem_append_left _ (List.mem_filter.mpr ⟨hx, by simpa using q⟩)
  simpa using h1
def sp_raw_named (K : PySem.W.Frag) : ASp := fun va S R _ => ∃ x s B, ∃ l : List Str, va = [x] ∧ Idx 0 s x ∧ s ≤ 4000 ∧ (∀ p y d, sub x 0 p = some (y, d) → d ≤ B) ∧ (∀ k : Str, k ∈ nmsV x → k ∈ l) ∧ B + l.length ≤ 120 ∧ l.length ≤ 60 ∧ ∀ v S', Nmd (frF (nmsV x)) 0 x v → Ext S S' → R v S'
theorem pf_raw_named {K : PySem.W.Frag} : ∀ va S R RE, sp_raw_named K va S R RE → rd_raw_named K (sp_free_of_indexed K) (sp_is_integer K) (sp_name_at K) (D0 R RE) (astart N_raw_named va) S := by
  rintro va S0 R RE ⟨x, s0, B, l, rfl, hx, hs, hB, hl, hBl, hl60, ret⟩
  unfold rd_raw_named
  simp! only []
  refine ⟨x, 0, s0, l, rfl, hx, hs, hl, hl60, fun t S1 tk X1 ht0 ht _ tnd tmem _ => ⟨by decide, fun nm hnm => ⟨by decide, by decide, by decide, fun w hw => ⟨by decide, fun dn hdn => ?_⟩⟩⟩⟩
  have tlen : tk.length ≤ l.length := len_le tk l tnd fun k hk => hl k ((tmem k).mp hk)
  have eF : frF (nmsV x) = frF tk := by
    funext i
    unfold frF
    rw [frL_congr fun k => (tmem k).symm]
  rw [eF] at ret
  have htnm : t ≠ nm := ne_of_new ht hnm
  have htw : t ≠ w := ne_of_new (Ext.new hnm _ _ ht) hw
  have hnmw : nm ≠ w := ne_of_new ups_same hw
  have htd : t ≠ dn := ne_of_new (Ext.new hw _ _ (Ext.new hnm _ _ ht)) hdn
  have hnd : nm ≠ dn := ne_of_new (Ext.new hw _ _ ups_same) hdn
  have hwd : w ≠ dn := ne_of_new ups_same hdn
  have X2 : Ext S0 (ups (ups (ups S1 nm (.lst [])) w (.lst [.tup [.tup [], x, .int 0]])) dn (.lst [])) := ((X1.trans (.new hnm)).trans (.new hw)).trans (.new hdn)
  have hnm0 : S0 nm = none := X1.none hnm
  have hw0 : S0 w = none := (X1.trans (.new hnm)).none hw
  have hdn0 : S0 dn = none := ((X1.trans (.new hnm)).trans (.new hw)).none hdn
  refine ⟨fun m es S => ∃ M W Dn o7 o8 o9, es = [some x, some (.ref t), some (.ref nm), some (.int 0), some (.ref w), some (.ref dn), some (.int (M : Nat)), o7, o8, o9, none] ∧ Ext S0 S ∧ S t = some (.lst (tk.map .str)) ∧ S nm = some (.lst []) ∧ S w = some (.lst (W.map ent)) ∧ S dn = some (.lst (Dn.map ent)) ∧ M ≤ B ∧ Walk x s0 m M W Dn,
    ⟨s0, 0, [⟨[], x, 0⟩], [], _, _, _, rfl, X2, ?_, ?_, ?_, by rw [ups_same]; rfl, Nat.zero_le _, ⟨.cons (s := s0) (m := 0) ⟨rfl, hx, by simp, by simp⟩ .nil, (fun e he => by cases he), by simp, by simp, (fun k e h => by simp at h), .inl (List.mem_cons_self ..)⟩⟩, ?_⟩
  · rw [ups_ne htd, ups_ne htw, ups_ne htnm, ht]
  · rw [ups_ne hnd, ups_ne hnmw, ups_same]
  · rw [ups_ne hwd, ups_same]; rfl
  rintro m _ S ⟨M, W, Dn, o7, o8, o9, rfl, X, ht, hnm', hw', hdn', hMB, hW⟩
  dsimp! only [hw', List.length_map]
  refine ifD (fun q => ?_) (fun q => ?_)
  · obtain ⟨s, n, e, W', rfl, g, hg, hm⟩ := hW.w.last (fun e => by subst e; simp at q)
    have hgo := hW.go g hg hm
    have hpos := g.ix.pos
    have hMe : max M e.d ≤ B := Nat.max_le.mpr ⟨hMB, hB _ _ _ g.at_⟩
    refine cut2 (fun es S1 => es = [some x, some (.ref t), some (.ref nm), some (.int 0), some (.ref w), some (.ref dn), some (.int (M : Nat)), some (pathV e.p), some e.x, some (.int (e.d : Int)), none] ∧ S1 = ups S w (.lst (W'.map ent))) (fun N hN => ?_) ?_
    · simp! only [hw', List.map_append, List.getLast?_concat, List.dropLast_concat, ent]
      exact ⟨trivial, trivial, trivial, hN _ _ ⟨rfl, rfl⟩⟩
    rintro _ _ ⟨rfl, rfl⟩
    refine cut2 (fun es S1 => es = [some x, some (.ref t), some (.ref nm), some (.int 0), some (.ref w), some (.ref dn), some (.int (M : Nat)), some (pathV e.p), some e.x, some (.int (e.d : Int)), none] ∧ S1 = ups (ups S w (.lst (W'.map ent))) dn (.lst ((Dn ++ [e]).map ent))) (fun N hN => ?_) ?_
    · have hdl : Dn.length < sizeLine := by
        have := hW.len
        simp only [sizeLine]
        omega
      simp! only [hdn', Ne.symm hwd, List.length_map]
      exact ⟨trivial, by decide, hdl, hN _ _ ⟨rfl, by rw [List.map_append]; rfl⟩⟩
    rintro _ _ ⟨rfl, rfl⟩
    refine cut2 (fun es S1 => es = [some x, some (.ref t), some (.ref nm), some (.int 0), some (.ref w), some (.ref dn), some (.int ((max M e.d : Nat) : Int)), some (pathV e.p), some e.x, some (.int (e.d : Int)), none] ∧ S1 = ups (ups S w (.lst (W'.map ent))) dn (.lst ((Dn ++ [e]).map ent))) (fun N hN => ?_) ?_
    · have e1 : (if (e.d : Int) > (M : Int) then (e.d : Int) else (M : Int)) = ((max M e.d : Nat) : Int) := by split <;> omega
      simp! only [e1]
      exact hN _ _ ⟨rfl, rfl⟩
    rintro _ _ ⟨rfl, rfl⟩
    have X' : Ext S0 (ups (ups S w (.lst (W'.map ent))) dn (.lst ((Dn ++ [e]).map ent))) := (X.put hw0).put hdn0
    have pl : e.p.length ≤ 4000 := by have := g.ln; omega
    have hWl : W'.length ≤ 4000 := by have := hg.len; have := hW.len; omega
    have f1 : ups (ups S w (.lst (W'.map ent))) dn (.lst ((Dn ++ [e]).map ent)) t = some (.lst (tk.map .str)) := by rw [ups_ne htd, ups_ne htw, ht]
    have f2 : ups (ups S w (.lst (W'.map ent))) dn (.lst ((Dn ++ [e]).map ent)) nm = some (.lst []) := by rw [ups_ne hnd, ups_ne hnmw, hnm']
    have f3 : ups (ups S w (.lst (W'.map ent))) dn (.lst ((Dn ++ [e]).map ent)) w = some (.lst (W'.map ent)) := by rw [ups_ne hwd, ups_same]
    have f4 : ups (ups S w (.lst (W'.map ent))) dn (.lst ((Dn ++ [e]).map ent)) dn = some (.lst ((Dn ++ [e]).map ent)) := ups_same
    generalize ups (ups S w (.lst (W'.map ent))) dn (.lst ((Dn ++ [e]).map ent)) = S2 at X' f1 f2 f3 f4
    clear ht hnm' hw' hdn' X hW
    refine hide fun N hN => ?_
    have fin : ∀ S3, S3 = ups S2 w (.lst ((W' ++ kids e).map ent)) ∨ (∃ r c, S2 r = none ∧ S3 = ups (ups S2 r c) w (.lst ((W' ++ kids e).map ent))) ∨ (kids e = [] ∧ S3 = S2) → N [some x, some (.ref t), some (.ref nm), some (.int 0), some (.ref w), some (.ref dn), some (.int ((max M e.d : Nat) : Int)), some (pathV e.p), some e.x, some (.int (e.d : Int)), none] S3 := fun S3 h3 => by
      refine hN _ _ ⟨n + (s - 1), by omega, max M e.d, W' ++ kids e, Dn ++ [e], _, _, _, rfl, ?_⟩
      rcases h3 with rfl | ⟨r, c, hr, rfl⟩ | ⟨hk, rfl⟩
      · exact ⟨X'.put hw0, by rw [ups_ne htw, f1], by rw [ups_ne hnmw, f2], ups_same, by rw [ups_ne (Ne.symm hwd), f4], hMe, hgo⟩
      · exact ⟨(X'.trans (.new hr)).put hw0, by rw [ups_ne htw, ups_ne (ne_of_new f1 hr), f1], by rw [ups_ne hnmw, ups_ne (ne_of_new f2 hr), f2], ups_same, by rw [ups_ne (Ne.symm hwd), ups_ne (ne_of_new f4 hr), f4], hMe, hgo⟩
      · exact ⟨X', f1, f2, by rw [hk, List.append_nil]; exact f3, f4, hMe, hgo⟩
    have hty := g.ix.tyOk S2
    obtain ⟨p, y, d⟩ := e
    have hix := g.ix
    dsimp only at hix hty pl fin f4 ⊢
    cases hix with
    | var _ =>
      simp! only [hintF]
      refine ⟨hty, _, rfl, hty, ?_⟩
      exact fin _ (.inr (.inr ⟨rfl, rfl⟩))
    | nm =>
      simp! only [hstT]
      refine ⟨hty, ?_⟩
      exact fin _ (.inr (.inr ⟨rfl, rfl⟩))
    | @of _ s1 s2 f a k1 k2 =>
      simp! only [hstF, f3]
      refine ⟨hty, _, rfl, hty, ?_⟩
      simp only [isInt]
      simp! only [f3]
      refine ifD (fun _ => ?_) (fun z => absurd trivial z)
      have hml : (p.map fun n : Nat => Val.int (n : Int)).length + 1 ≤ sizeLine := by rw [List.length_map]; simp only [sizeLine]; omega
      refine ⟨trivial, by decide, hml, by decide, by decide, hml, by decide, by decide, fun r hr => ?_⟩
      rw [ups_ne (ne_of_new f3 hr), f3]
      simp! only [List.length_map]
      refine ⟨by simp only [sizeLine]; omega, fin _ (.inr (.inl ⟨r, .lst [ent ⟨p ++ [0], f, d⟩, ent ⟨p ++ [1], a, d⟩], hr, ?_⟩))⟩
      rw [List.map_append]
      simp only [kids, List.map_cons, List.map_nil, ent, pathV]
      rw [← path_app p 0, ← path_app p 1]
      rfl
    | @wi _ s1 b k1 =>
      simp! only [hstF, f3]
      refine ⟨hty, _, rfl, hty, ?_⟩
      simp only [isInt]
      simp! only [f3]
      refine ifD (fun z => absurd z (by decide)) (fun _ => ?_)
      have hml : (p.map fun n : Nat => Val.int (n : Int)).length + 1 ≤ sizeLine := by rw [List.length_map]; simp only [sizeLine]; omega
      refine ⟨trivial, by decide, hml, by decide, by rw [List.length_map]; simp only [sizeLine]; omega, fin _ (.inl ?_)⟩
      rw [List.map_append]
      simp only [kids, List.map_cons, List.map_nil, ent, pathV]
      rw [← path_app p 0]
      rfl
  · have hW0 : W = [] := by
      cases W with
      | nil => rfl
      | cons a b => simp at q
    subst hW0
    have hm0 : m = 0 := by
      cases hW.w
      rfl
    subst hm0
    have hM : M ≤ B := hMB
    refine cut2 (fun es S => ∃ c : Nat, es = [some x, some (.ref t), some (.ref nm), some (.int (c : Int)), some (.ref w), some (.ref dn), some (.int (M : Nat)), o7, o8, o9, none] ∧ Ext S0 S ∧ S nm = some (.lst ((frC tk c).map .str)) ∧ S dn = some (.lst (Dn.map ent)) ∧ c ≤ 130 ∧ (frC tk c).length = M) (fun N hN => ?_) ?_
    · refine ⟨fun m es S => ∃ c, es = [some x, some (.ref t), some (.ref nm), some (.int (c : Nat)), some (.ref w), some (.ref dn), some (.int (M : Nat)), o7, o8, o9, none] ∧ Ext S0 S ∧ S t = some (.lst (tk.map .str)) ∧ S nm = some (.lst ((frC tk c).map .str)) ∧ S dn = some (.lst (Dn.map ent)) ∧ m + c = 125 ∧ (frC tk c).length ≤ M, ⟨125, 0, rfl, X, ht, by rw [hnm']; rfl, hdn', rfl, Nat.zero_le _⟩, ?_⟩
      rintro m _ S ⟨c, rfl, X, ht, hnm', hdn', hmc, hfl⟩
      dsimp! only [hnm', List.length_map]
      refine ifD (fun q => ?_) (fun q => ?_)
      · have hcl := frC_len tk (c := c) (by omega)
        have hc : c < 122 := by omega
        refine hide fun N hN => ?_
        simp! only []
        refine ⟨c, rfl, by omega, ?_⟩
        simp! only [ht, flat, flat_strs, inF_strs]
        refine ⟨trivial, trivial, ?_⟩
        by_cases hz : nameAt c ∈ tk
        · have e1 : frC tk (c + 1) = frC tk c := by rw [frC_succ, if_pos hz, List.append_nil]
          rw [if_neg (by simp [hz])]
          exact hN _ _ ⟨m - 1, by omega, c + 1, rfl, X, ht, by rw [e1]; exact hnm', hdn', by omega, by rw [e1]; exact hfl⟩
        · have e1 : frC tk (c + 1) = frC tk c ++ [nameAt c] := by rw [frC_succ, if_neg hz]
          rw [if_pos (by simp [hz])]
          simp! only [hnm']
          refine ⟨trivial, c, rfl, by omega, ?_⟩
          simp! only [hnm', List.length_map]
          refine ⟨by simp only [sizeLine]; omega, hN _ _ ⟨m - 1, by omega, c + 1, rfl, X.put hnm0, by rw [ups_ne htnm, ht], ?_, by rw [ups_ne (Ne.symm hnd), hdn'], by omega, by rw [e1]; simp only [List.length_append, List.length_cons, List.length_nil]; omega⟩⟩
          rw [ups_same, e1, List.map_append]
          rfl
      · exact hN _ _ ⟨c, rfl, X, hnm', hdn', by omega, by omega⟩
    rintro _ S ⟨cc, rfl, X, hnm', hdn', hcc, hfl⟩
    have hat : ∀ i, i < M → ((frC tk cc).map Val.str)[i]? = some (.str (frF tk i)) := fun i hi => by
      rw [List.getElem?_map, frC_at tk hcc (by omega)]
      rfl
    simp! only []
    intro f hf
    have hfn : nm ≠ f := ne_of_new hnm' hf
    have hfd : dn ≠ f := ne_of_new hdn' hf
    have hlen := hW.len
    refine for_sq fun N hN => ?_
    simp! only [hdn', hfd]
    intro r hr
    have hrf : f ≠ r := ne_of_new ups_same hr
    have hf0 : S0 f = none := X.none hf
    have hnr : nm ≠ r := ne_of_new (Ext.new hf _ _ hnm') hr
    refine hN _ _ ⟨fun i es S1 => ∃ kvs o7 o8 o9, es = [some x, some (.ref t), some (.ref nm), some (.int (cc : Int)), some (.ref w), some (.ref dn), some (.int (M : Nat)), o7, o8, o9, some (.ref f)] ∧ Ext S0 S1 ∧ S1 nm = some (.lst ((frC tk cc).map .str)) ∧ S1 f = some (.dt kvs) ∧ S1 r = some (.lst (Dn.map ent).reverse) ∧ FoundAt (frF tk) Dn kvs (Dn.length - i) ∧ kvs.length ≤ i,
      ⟨[], _, _, _, rfl, (X.trans (.new hf)).trans (.new hr), ?_, ?_, ups_same, fun k e hk hle => ?_, Nat.le_refl _⟩, fun i es S1 ⟨_, _, _, _, _, _, _, _, h, _⟩ => .inl h, ?_, ?_⟩
    · rw [ups_ne hnr, ups_ne hfn, hnm']
    · rw [ups_ne hrf, ups_same]
    · have := (List.getElem?_eq_some_iff.mp hk).1
      omega
    · rintro i y _ S1 hy ⟨kvs, o7, o8, o9, rfl, X1, h1, h2, h3, h4, h5⟩
      have hi : i < Dn.length := by
        have := (List.getElem?_eq_some_iff.mp hy).1
        simpa using this
      have hge : Dn[Dn.length - 1 - i]? = some Dn[Dn.length - 1 - i] := List.getElem?_eq_getElem _
      obtain ⟨e, he⟩ : ∃ e, Dn[Dn.length - 1 - i]? = some e := ⟨_, hge⟩
      have hye : y = ent e := by
        simp only at hy
        rw [List.getElem?_reverse (by simpa using hi), List.getElem?_map, List.length_map, he] at hy
        cases hy
        rfl
      subst hye
      have e1 : Dn.length - i = (Dn.length - 1 - i) + 1 := by omega
      rw [e1] at h4
      obtain ⟨⟨s, g⟩, hdM⟩ := hW.dn e (List.mem_of_getElem? he)
      have kidv : ∀ c, c ∈ kids e → (∃ v, valA kvs (keyP c.p) = some v ∧ Nmd (frF tk) c.d c.x v) ∧ c.d ≤ M := fun c hc => by
        rcases hW.kid _ e he c hc with h | ⟨k', h6, h7⟩
        · cases h
        · exact ⟨h4 k' c h7 (by omega), (hW.dn c (List.mem_of_getElem? h7)).2⟩
      have fin : ∀ (N : AEnv → Store → Prop) (v : Val), Nmd (frF tk) e.d e.x v → (∀ es S, (∃ kvs o7 o8 o9, es = [some x, some (.ref t), some (.ref nm), some (.int (cc : Int)), some (.ref w), some (.ref dn), some (.int (M : Nat)), o7, o8, o9, some (.ref f)] ∧ Ext S0 S ∧ S nm = some (.lst ((frC tk cc).map .str)) ∧ S f = some (.dt kvs) ∧ S r = some (.lst (Dn.map ent).reverse) ∧ FoundAt (frF tk) Dn kvs (Dn.length - (i + 1)) ∧ kvs.length ≤ i + 1) → N es S) →
          N [some x, some (.ref t), some (.ref nm), some (.int (cc : Int)), some (.ref w), some (.ref dn), some (.int (M : Nat)), some (pathV e.p), some e.x, some (.int (e.d : Int)), some (.ref f)] (ups S1 f (.dt (putA kvs (keyP e.p) v))) := fun N v hv hN => by
        refine hN _ _ ⟨_, _, _, _, rfl, X1.put hf0, by rw [ups_ne hfn, h1], ups_same, by rw [ups_ne (Ne.symm hrf), h3], ?_, ?_⟩
        · have e2 : Dn.length - (i + 1) = Dn.length - 1 - i := by omega
          rw [e2]
          exact h4.put hW he hv
        · exact Nat.le_trans putA_len (by omega)
      have hkl : kvs.length < sizeLine := by simp only [sizeLine]; omega
      have hst : ∀ v, putD? (.dt kvs) (pathV e.p) v = some (.dt (putA kvs (keyP e.p) v)) := fun v => by
        simp only [putD?, pathV, keyP_of]
        rfl
      have hget : ∀ c ∈ kids e, getD? (.dt kvs) (pathV c.p) = some (valA kvs (keyP c.p)) := fun c _ => by
        simp only [getD?, pathV, keyP_of]
        rfl
      have hty := g.ix.tyOk S1
      have hpl := g.ln
      refine tup3 (v1 := pathV e.p) (v2 := e.x) (v3 := .int (e.d : Int)) ?_
      refine hide fun N hN => ?_
      simp only [List.set_cons_zero, List.set_cons_succ]
      have fin' := fun v hv => fin N v hv hN
      clear fin hN
      obtain ⟨p, y, d⟩ := e
      have hix := g.ix
      dsimp only at hix hty hst fin' hpl hdM ⊢
      have hml : (p.map fun n : Nat => Val.int (n : Int)).length + 1 ≤ sizeLine := by rw [List.length_map]; simp only [sizeLine]; omega
      cases hix with
      | @nm _ z =>
        simp! only [hstT, h2, hst]
        exact ⟨hty, hkl, fin' _ .nm⟩
      | @var _ j hj =>
        simp! only [hintF]
        refine ⟨hty, _, rfl, hty, ?_⟩
        simp only [isInt]
        have e3 : ((d : Int) - 1 - (j : Int)) = ((d - 1 - j : Nat) : Int) := by omega
        rw [e3]
        have e4 := hat (d - 1 - j) (by omega)
        simp! only [h1, atI_nat, e4, h2, hst]
        exact ⟨hkl, fin' _ (.var hj)⟩
      | @of _ s1 s2 fv av k1 k2 =>
        obtain ⟨⟨v1, a1, a2⟩, _⟩ := kidv ⟨p ++ [0], fv, d⟩ (by simp [kids])
        obtain ⟨⟨v2, b1, b2⟩, _⟩ := kidv ⟨p ++ [1], av, d⟩ (by simp [kids])
        have g1 := hget ⟨p ++ [0], fv, d⟩ (by simp [kids])
        have g2 := hget ⟨p ++ [1], av, d⟩ (by simp [kids])
        dsimp only [pathV] at g1 g2 a1 b1 a2 b2
        rw [← path_app p 0, a1] at g1
        rw [← path_app p 1, b1] at g2
        simp! only [hstF]
        refine ⟨hty, _, rfl, hty, ?_⟩
        simp only [isInt]
        simp! only []
        refine ifD (fun _ => ?_) (fun z => absurd trivial z)
        have g1' : getD? (.dt kvs) (.tup ((p.map fun n : Nat => Val.int (n : Int)) ++ [Val.int 0])) = some (some v1) := g1
        have g2' : getD? (.dt kvs) (.tup ((p.map fun n : Nat => Val.int (n : Int)) ++ [Val.int 1])) = some (some v2) := g2
        simp! only [h2, g1', g2', hst]
        exact ⟨by decide, hml, by decide, hml, by decide, hkl, fin' _ (.of a2 b2)⟩
      | @wi _ s1 bv k1 =>
        obtain ⟨⟨v1, a1, a2⟩, hM1⟩ := kidv ⟨p ++ [0], bv, d + 1⟩ (by simp [kids])
        have g1 := hget ⟨p ++ [0], bv, d + 1⟩ (by simp [kids])
        dsimp only [pathV] at g1 a1 a2 hM1
        rw [← path_app p 0, a1] at g1
        have g1' : getD? (.dt kvs) (.tup ((p.map fun n : Nat => Val.int (n : Int)) ++ [Val.int 0])) = some (some v1) := g1
        have e4 := hat d (by omega)
        simp! only [hstF]
        refine ⟨hty, _, rfl, hty, ?_⟩
        simp only [isInt]
        simp! only []
        refine ifD (fun z => absurd z (by decide)) (fun _ => ?_)
        simp! only [h1, atI_nat, e4, h2, g1', hst]
        exact ⟨by decide, hml, by decide, hkl, fin' _ (.wi a2)⟩
    · rintro _ S1 ⟨kvs, o7, o8, o9, rfl, X1, h1, h2, h3, h4, h5⟩
      have hroot : (⟨[], x, 0⟩ : Ent) ∈ Dn := by
        rcases hW.root with h | h
        · cases h
        · exact h
      obtain ⟨k, hk⟩ := List.getElem?_of_mem hroot
      have hlr : (Dn.map ent).reverse.length = Dn.length := by simp
      rw [hlr, Nat.sub_self] at h4
      obtain ⟨v, e1, e2⟩ := h4 k _ hk (Nat.zero_le _)
      have e3 : getD? (.dt kvs) (.tup []) = some (some v) := by
        show some (valA kvs []) = _
        exact congrArg some e1
      simp! only [h2, e3]
      exact ⟨by decide, ret v S1 e2 X1⟩
end G

set_option Elab.async false
set_option linter.all false
set_option maxRecDepth 100000
set_option maxHeartbeats 1000000
set_option exponentiation.threshold 1000
namespace G
open PySem A3
/-! ### numbered terms and terms of names -/
def Ix.nms : Ix → List Str
  | .nm s => [s]
  | .v _ => []
  | .a f x => f.nms ++ x.nms
  | .l b => b.nms
theorem nmsV_val : ∀ x : Ix, nmsV x.val = x.nms
  | .nm s => rfl
  | .v _ => rfl
  | .a f x => by simp only [Ix.val, nmsV, Ix.nms, nmsV_val f, nmsV_val x]
  | .l b => by simp only [Ix.val, nmsV, Ix.nms, nmsV_val b]
theorem Ix.idx_ok : ∀ (x : Ix) (d : Nat), x.low d → Idx d x.size x.val
  | .nm s, d, _ => .nm
  | .v n, d, h => .var h
  | .a f x, d, h => .of (f.idx_ok d h.1) (x.idx_ok d h.2)
  | .l b, d, h => .wi (b.idx_ok (d + 1) h)
/-- the term of names, these at each depth -/
def Ix.nmF (F : Nat → Str) (d : Nat) : Ix → Tm
  | .nm s => .v s
  | .v i => .v (F (d - 1 - i))
  | .a f x => .a (f.nmF F d) (x.nmF F d)
  | .l b => .l (F d) (b.nmF F (d + 1))
theorem Nmd_val {F : Nat → Str} : ∀ (x : Ix) (d : Nat) (v : Val), Nmd F d x.val v → v = (x.nmF F d).val
  | .nm s, d, v, h => by
    simp only [Ix.val] at h
    cases h; rfl
  | .v n, d, v, h => by
    simp only [Ix.val] at h
    generalize e : (n : Int) = k at h
    cases h with
    | @var d i hi =>
      have : n = i := by omega
      subst this; rfl
  | .a f x, d, v, h => by
    simp only [Ix.val] at h
    cases h with
    | of h1 h2 => rw [Nmd_val f d _ h1, Nmd_val x d _ h2]; rfl
  | .l b, d, v, h => by
    simp only [Ix.val] at h
    cases h with
    | wi h1 => rw [Nmd_val b (d + 1) _ h1]; rfl
theorem Tm.idx_low : ∀ (t : Tm) (b : List Str), (t.idx b).low b.length
  | .v s, b => by
    simp only [Tm.idx]
    split
    · next h => exact List.idxOf_lt_length_of_mem h
    · trivial
  | .a f x, b => ⟨f.idx_low b, x.idx_low b⟩
  | .l s t, b => t.idx_low (s :: b)
theorem Ix.nmF_size (F : Nat → Str) : ∀ (x : Ix) (d : Nat), (x.nmF F d).size = x.size
  | .nm _, _ => rfl
  | .v _, _ => rfl
  | .a f x, d => by simp only [Ix.nmF, Tm.size, Ix.size, Ix.nmF_size F f d, Ix.nmF_size F x d]
  | .l b, d => by simp only [Ix.nmF, Tm.size, Ix.size, Ix.nmF_size F b (d + 1)]
/-- how deep -/
def Ix.deep : Ix → Nat
  | .nm _ => 1
  | .v _ => 1
  | .a f x => max f.deep x.deep + 1
  | .l b => b.deep + 1
theorem Tm.idx_deep : ∀ (t : Tm) (b : List Str), (t.idx b).deep = t.deep
  | .v s, b => by
    simp only [Tm.idx]
    split <;> rfl
  | .a f x, b => by simp only [Tm.idx, Ix.deep, Tm.deep, Tm.idx_deep f b, Tm.idx_deep x b]
  | .l s t, b => by simp only [Tm.idx, Ix.deep, Tm.deep, Tm.idx_deep t (s :: b)]
theorem Ix.nmF_deep (F : Nat → Str) : ∀ (x : Ix) (d : Nat), (x.nmF F d).deep = x.deep
  | .nm _, _ => rfl
  | .v _, _ => rfl
  | .a f x, d => by simp only [Ix.nmF, Tm.deep, Ix.deep, Ix.nmF_deep F f d, Ix.nmF_deep F x d]
  | .l b, d => by simp only [Ix.nmF, Tm.deep, Ix.deep, Ix.nmF_deep F b (d + 1)]
def Ix.good (x : Ix) : Prop := ∀ s, s ∈ x.nms → isName s = true
def Ix.goodB (x : Ix) : Bool := x.nms.all isName
theorem Tm.idx_good : ∀ (t : Tm) (b : List Str), t.good = true → (t.idx b).good
  | .v s, b, h => by
    simp only [Tm.idx]
    split
    · intro z hz; cases hz
    · intro z hz
      rw [List.mem_singleton.mp hz]; exact h
  | .a f x, b, h => by
    simp only [Tm.good, Bool.and_eq_true] at h
    intro z hz
    rcases List.mem_append.mp hz with hz | hz
    · exact f.idx_good b h.1 z hz
    · exact x.idx_good b h.2 z hz
  | .l s t, b, h => by
    simp only [Tm.good, Bool.and_eq_true] at h
    exact t.idx_good (s :: b) h.2
/-! ### their data -/
def Ix.dat : Ix → PyData
  | .nm s => .str s
  | .v n => .int (n : Int)
  | .a f x => .tuple [.str "of", f.dat, x.dat]
  | .l b => .tuple [.str "with", b.dat]
def Tm.dat : Tm → PyData
  | .v s => .str s
  | .a f x => .tuple [.str "of", f.dat, x.dat]
  | .l s b => .tuple [.str "with", .str s, b.dat]
theorem Ix.drel {S : Store} : ∀ x : Ix, DRel S x.val x.dat
  | .nm s => .str s
  | .v n => .int _
  | .a f x => .tup (.cons (.str _) (.cons f.drel (.cons x.drel .nil)))
  | .l b => .tup (.cons (.str _) (.cons b.drel .nil))
theorem Tm.drel {S : Store} : ∀ x : Tm, DRel S x.val x.dat
  | .v s => .str s
  | .a f x => .tup (.cons (.str _) (.cons f.drel (.cons x.drel .nil)))
  | .l s b => .tup (.cons (.str _) (.cons (.str s) (.cons b.drel .nil)))
theorem smalls : ∀ c ∈ smallS.cps.toList, c < 0x110000 := by decide +kernel
theorem isName_ok {s : Str} (h : isName s = true) : PyData.strOk s = true := by
  unfold isName at h
  simp only [Bool.and_eq_true, List.all_eq_true, decide_eq_true_eq] at h
  unfold PyData.strOk
  rw [← Array.all_toList, List.all_eq_true]
  intro c hc
  exact decide_eq_true (smalls c (h.2 c hc))
theorem Ix.lay : ∀ x : Ix, x.good → PyData.canLay0 x.dat = true ∧ PyData.depth x.dat ≤ x.deep
  | .nm s, h => by
    have := isName_ok (h s (by simp [Ix.nms]))
    exact ⟨by simpa [Ix.dat, PyData.canLay0] using this, by simp [Ix.dat, PyData.depth]⟩
  | .v n, h => ⟨by simp [Ix.dat, PyData.canLay0], by simp [Ix.dat, PyData.depth]⟩
  | .a f x, h => by
    obtain ⟨h1, h2⟩ := f.lay fun s hs => h s (List.mem_append_left _ hs)
    obtain ⟨h3, h4⟩ := x.lay fun s hs => h s (List.mem_append_right _ hs)
    refine ⟨?_, ?_⟩
    · simp only [Ix.dat, PyData.canLay0, PyData.canLayAll0, h1, h3]
      decide +kernel
    · simp only [Ix.dat, PyData.depth, PyData.depthAll, Ix.deep]
      omega
  | .l b, h => by
    obtain ⟨h1, h2⟩ := b.lay h
    refine ⟨?_, ?_⟩
    · simp only [Ix.dat, PyData.canLay0, PyData.canLayAll0, h1]
      decide +kernel
    · simp only [Ix.dat, PyData.depth, PyData.depthAll, Ix.deep]
      omega
theorem Tm.lay : ∀ x : Tm, x.good = true → PyData.canLay0 x.dat = true ∧ PyData.depth x.dat ≤ x.deep
  | .v s, h => by
    have := isName_ok h
    exact ⟨by simpa [Tm.dat, PyData.canLay0] using this, by simp [Tm.dat, PyData.depth]⟩
  | .a f x, h => by
    simp only [Tm.good, Bool.and_eq_true] at h
    obtain ⟨h1, h2⟩ := f.lay h.1
    obtain ⟨h3, h4⟩ := x.lay h.2
    refine ⟨?_, ?_⟩
    · simp only [Tm.dat, PyData.canLay0, PyData.canLayAll0, h1, h3]
      decide +kernel
    · simp only [Tm.dat, PyData.depth, PyData.depthAll, Tm.deep]
      omega
  | .l s b, h => by
    simp only [Tm.good, Bool.and_eq_true] at h
    obtain ⟨h1, h2⟩ := b.lay h.2
    have h0 := isName_ok h.1
    refine ⟨?_, ?_⟩
    · simp only [Tm.dat, PyData.canLay0, PyData.canLayAll0, h1, h0]
      decide +kernel
    · simp only [Tm.dat, PyData.depth, PyData.depthAll, Tm.deep]
      omega
theorem Ix.shaped {x : Ix} (h : x.good) (d : x.deep ≤ 64) : SeqAt.shaped x.dat = true := by
  obtain ⟨h1, h2⟩ := x.lay h
  unfold SeqAt.shaped
  rw [h1, decide_eq_true (Nat.le_trans h2 d)]
  rfl
theorem Tm.shaped {x : Tm} (h : x.good = true) (d : x.deep ≤ 64) : SeqAt.shaped x.dat = true := by
  obtain ⟨h1, h2⟩ := x.lay h
  unfold SeqAt.shaped
  rw [h1, decide_eq_true (Nat.le_trans h2 d)]
  rfl
theorem Ix.eqv_iff : ∀ x y : Ix, PyData.eqv x.dat y.dat = true ↔ x = y
  | .nm s, .nm z => by simp [Ix.dat, PyData.eqv]
  | .nm s, .v _ => by simp [Ix.dat, PyData.eqv]
  | .nm s, .a _ _ => by simp [Ix.dat, PyData.eqv]
  | .nm s, .l _ => by simp [Ix.dat, PyData.eqv]
  | .v n, .nm _ => by simp [Ix.dat, PyData.eqv]
  | .v n, .v m => by
    simp only [Ix.dat, PyData.eqv, beq_iff_eq, Ix.v.injEq]
    omega
  | .v n, .a _ _ => by simp [Ix.dat, PyData.eqv]
  | .v n, .l _ => by simp [Ix.dat, PyData.eqv]
  | .a f x, .nm _ => by simp [Ix.dat, PyData.eqv]
  | .a f x, .v _ => by simp [Ix.dat, PyData.eqv]
  | .a f x, .a g y => by
    simp only [Ix.dat, PyData.eqv, PyData.eqvAll, Bool.and_eq_true, Ix.eqv_iff f g, Ix.eqv_iff x y, beq_self_eq_true, true_and, and_true, Ix.a.injEq]
  | .a f x, .l _ => by simp [Ix.dat, PyData.eqv, PyData.eqvAll]
  | .l b, .nm _ => by simp [Ix.dat, PyData.eqv]
  | .l b, .v _ => by simp [Ix.dat, PyData.eqv]
  | .l b, .a _ _ => by simp [Ix.dat, PyData.eqv, PyData.eqvAll]
  | .l b, .l c => by
    simp only [Ix.dat, PyData.eqv, PyData.eqvAll, Bool.and_eq_true, Ix.eqv_iff b c, beq_self_eq_true, true_and, and_true, Ix.l.injEq]
theorem of_with {a b c d : PyData} : PyData.eqv (.tuple [.str "of", a, b]) (.tuple [.str "with", c, d]) = false := by
  have : (("of" : Str) == ("with" : Str)) = false := by decide
  simp only [PyData.eqv, PyData.eqvAll, this, Bool.false_and]
theorem with_of {a b c d : PyData} : PyData.eqv (.tuple [.str "with", c, d]) (.tuple [.str "of", a, b]) = false := by
  have : (("with" : Str) == ("of" : Str)) = false := by decide
  simp only [PyData.eqv, PyData.eqvAll, this, Bool.false_and]
theorem Tm.eqv_iff : ∀ x y : Tm, PyData.eqv x.dat y.dat = true ↔ x = y
  | .v s, .v z => by simp [Tm.dat, PyData.eqv]
  | .v s, .a _ _ => by simp [Tm.dat, PyData.eqv]
  | .v s, .l _ _ => by simp [Tm.dat, PyData.eqv]
  | .a f x, .v _ => by simp [Tm.dat, PyData.eqv]
  | .a f x, .a g y => by
    simp only [Tm.dat, PyData.eqv, PyData.eqvAll, Bool.and_eq_true, Tm.eqv_iff f g, Tm.eqv_iff x y, beq_self_eq_true, true_and, and_true, Tm.a.injEq]
  | .a f x, .l s b => by
    simp only [Tm.dat, of_with, Bool.false_eq_true, false_iff]
    exact fun h => by cases h
  | .l s b, .v _ => by simp [Tm.dat, PyData.eqv]
  | .l s b, .a _ _ => by
    simp only [Tm.dat, with_of, Bool.false_eq_true, false_iff]
    exact fun h => by cases h
  | .l s b, .l z c => by
    simp only [Tm.dat, PyData.eqv, PyData.eqvAll, Bool.and_eq_true, Tm.eqv_iff b c, beq_iff_eq, true_and, and_true, Tm.l.injEq]
theorem Ix.nms_len : ∀ x : Ix, x.nms.length ≤ x.size
  | .nm _ => Nat.le_refl _
  | .v _ => Nat.zero_le _
  | .a f x => by
    have := f.nms_len
    have := x.nms_len
    simp only [Ix.nms, Ix.size, List.length_append]
    omega
  | .l b => by
    have := b.nms_len
    simp only [Ix.nms, Ix.size]
    omega
theorem Ix.deep_pos : ∀ x : Ix, 1 ≤ x.deep := fun x => by cases x <;> simp [Ix.deep]
/-- few enough names: those that stand there are among l, and it is not too deep -/
def Nx (N : Nat) (x : Ix) : Prop := ∃ l : List Str, (∀ k, k ∈ x.nms → k ∈ l) ∧ x.deep + l.length ≤ N ∧ l.length ≤ 60
theorem Nx.mono {N M : Nat} {x : Ix} (h : Nx N x) (k : N ≤ M) : Nx M x := by
  obtain ⟨l, h1, h2, h3⟩ := h
  exact ⟨l, h1, by omega, h3⟩
theorem Nx.deep {N : Nat} {x : Ix} (h : Nx N x) : x.deep ≤ N := by
  obtain ⟨l, _, h, _⟩ := h
  omega
theorem Ix.sub_deep : ∀ (p : List Nat) (x : Ix) (e : Nat) (y : Val) (d : Nat), sub x.val e p = some (y, d) → d ≤ e + x.deep
  | [], x, e, y, d, h => by
    simp only [sub, Option.some.injEq, Prod.mk.injEq] at h
    omega
  | k :: p, .nm s, e, y, d, h => by simp [sub, Ix.val, step1] at h
  | k :: p, .v s, e, y, d, h => by simp [sub, Ix.val, step1] at h
  | 0 :: p, .a f x, e, y, d, h => by
    have h' : sub f.val e p = some (y, d) := h
    have := Ix.sub_deep p f e y d h'
    simp only [Ix.deep]
    omega
  | 1 :: p, .a f x, e, y, d, h => by
    have h' : sub x.val e p = some (y, d) := h
    have := Ix.sub_deep p x e y d h'
    simp only [Ix.deep]
    omega
  | (k + 2) :: p, .a f x, e, y, d, h => by simp [sub, Ix.val, step1] at h
  | 0 :: p, .l b, e, y, d, h => by
    have h' : sub b.val (e + 1) p = some (y, d) := h
    have := Ix.sub_deep p b (e + 1) y d h'
    simp only [Ix.deep]
    omega
  | (k + 1) :: p, .l b, e, y, d, h => by simp [sub, Ix.val, step1] at h
theorem raw_named_call {K : PySem.W.Frag} {x : Ix} {S : Store} {R : AK} {RE : AX} (h : x.low 0) (hs : x.size ≤ 4000) (hn : Nx 120 x) (hR : ∀ S', Ext S S' → R (x.nmF (frF x.nms) 0).val S') : sp_raw_named K [x.val] S R RE := by
  obtain ⟨l, h1, h2, h3⟩ := hn
  refine ⟨x.val, x.size, x.deep, l, rfl, x.idx_ok 0 h, hs, fun p y d e => by have := x.sub_deep p 0 y d e; omega, fun k hk => h1 k (by rw [nmsV_val] at hk; exact hk), h2, h3, fun v S2 hv X2 => ?_⟩
  rw [nmsV_val] at hv
  rw [Nmd_val _ _ _ hv]
  exact hR S2 X2
noncomputable def Ix.same (x y : Ix) : Bool := PyData.eqv x.dat y.dat
theorem scalA_dat {S : Store} {a b : Val} {d e : PyData} {k : Bool} (h : scalA a b = some k) (ra : DRel S a d) (rb : DRel S b e) : PyData.eqv d e = k := by
  cases ra <;> cases rb <;> simp only [scalA, reduceCtorEq, Option.some.injEq] at h <;> subst h <;> simp [PyData.eqv] <;> rfl
/-- == of what reads as data -/
theorem eq_dat {S : Store} {a b : Val} {d e : PyData} {R : AK} (ra : DRel S a d) (rb : DRel S b e) (h1 : SeqAt.shaped d = true) (h2 : SeqAt.shaped e = true) (h : R (.bl (PyData.eqv d e)) S) : eqA a b S R := by
  unfold eqA
  cases q : scalA a b with
  | some k => simp only; rw [← scalA_dat q ra rb]; exact h
  | none => exact ⟨d, e, ra, rb, h1, h2, h⟩
theorem ne_dat {S : Store} {a b : Val} {d e : PyData} {R : AK} (ra : DRel S a d) (rb : DRel S b e) (h1 : SeqAt.shaped d = true) (h2 : SeqAt.shaped e = true) (h : R (.bl (!PyData.eqv d e)) S) : neA a b S R := by
  unfold neA
  cases q : scalA a b with
  | some k => simp only; rw [← scalA_dat q ra rb]; exact h
  | none => exact ⟨d, e, ra, rb, h1, h2, h⟩
/-! ### plain, alike -/
def plainT (t : Tm) : Tm := (t.idx []).nmF (frF (t.idx []).nms) 0
end G

set_option Elab.async false
set_option linter.all false
set_option maxRecDepth 100000
set_option maxHeartbeats 1000000
set_option exponentiation.threshold 1000
namespace G
open PySem A3
/-! ### paths -/
def Tm.at : Tm → List Nat → Option Tm
  | t, [] => some t
  | t, k :: p => (t.kids[k]?).bind fun u => u.at p
end G

set_option Elab.async false
set_option linter.all false
set_option maxRecDepth 100000
set_option maxHeartbeats 1000000
set_option exponentiation.threshold 1000
namespace G
open PySem A3
/-! ### the law's walk: terms of names and numbered ones -/
inductive Tr where
  | sy (x : Str)
  | nu (n : Nat)
  | a (x y : Tr)
  | l (m : Option Str) (b : Tr)
def Tr.val : Tr → Val
  | .sy x => .str x
  | .nu n => .int (n : Int)
  | .a x y => .tup [.str "of", x.val, y.val]
  | .l (some s) b => .tup [.str "with", .str s, b.val]
  | .l none b => .tup [.str "with", b.val]
def Tr.size : Tr → Nat
  | .sy _ => 1
  | .nu _ => 1
  | .a x y => x.size + y.size + 1
  | .l _ b => b.size + 1
theorem Tr.size_pos : ∀ t : Tr, 1 ≤ t.size
  | .sy _ => Nat.le_refl _
  | .nu _ => Nat.le_refl _
  | .a _ _ => by simp [Tr.size]
  | .l _ _ => by simp [Tr.size]
def Tr.deep : Tr → Nat
  | .sy _ => 1
  | .nu _ => 1
  | .a x y => max x.deep y.deep + 1
  | .l _ b => b.deep + 1
theorem Tr.deep_pos : ∀ t : Tr, 1 ≤ t.deep
  | .sy _ => Nat.le_refl _
  | .nu _ => Nat.le_refl _
  | .a _ _ => by simp [Tr.deep]
  | .l _ _ => by simp [Tr.deep]
/-- all names are right -/
def Tr.good : Tr → Bool
  | .sy x => isName x
  | .nu _ => true
  | .a x y => x.good && y.good
  | .l (some s) b => isName s && b.good
  | .l none b => b.good
def Tr.dat : Tr → PyData
  | .sy x => .str x
  | .nu n => .int (n : Int)
  | .a x y => .tuple [.str "of", x.dat, y.dat]
  | .l (some s) b => .tuple [.str "with", .str s, b.dat]
  | .l none b => .tuple [.str "with", b.dat]
theorem Tr.drel {S : Store} : ∀ t : Tr, DRel S t.val t.dat
  | .sy _ => .str _
  | .nu _ => .int _
  | .a x y => .tup (.cons (.str _) (.cons x.drel (.cons y.drel .nil)))
  | .l (some _) b => .tup (.cons (.str _) (.cons (.str _) (.cons b.drel .nil)))
  | .l none b => .tup (.cons (.str _) (.cons b.drel .nil))
theorem Tr.lay : ∀ t : Tr, t.good = true → PyData.canLay0 t.dat = true ∧ PyData.depth t.dat ≤ t.deep
  | .sy x, h => by
    have := isName_ok h
    exact ⟨by simpa [Tr.dat, PyData.canLay0] using this, by simp [Tr.dat, PyData.depth]⟩
  | .nu n, _ => ⟨by simp [Tr.dat, PyData.canLay0], by simp [Tr.dat, PyData.depth]⟩
  | .a x y, h => by
    simp only [Tr.good, Bool.and_eq_true] at h
    obtain ⟨h1, h2⟩ := x.lay h.1
    obtain ⟨h3, h4⟩ := y.lay h.2
    refine ⟨?_, ?_⟩
    · simp only [Tr.dat, PyData.canLay0, PyData.canLayAll0, h1, h3]
      decide +kernel
    · simp only [Tr.dat, PyData.depth, PyData.depthAll, Tr.deep]
      omega
  | .l (some s) b, h => by
    simp only [Tr.good, Bool.and_eq_true] at h
    obtain ⟨h1, h2⟩ := b.lay h.2
    have h0 := isName_ok h.1
    refine ⟨?_, ?_⟩
    · simp only [Tr.dat, PyData.canLay0, PyData.canLayAll0, h1, h0]
      decide +kernel
    · simp only [Tr.dat, PyData.depth, PyData.depthAll, Tr.deep]
      omega
  | .l none b, h => by
    simp only [Tr.good] at h
    obtain ⟨h1, h2⟩ := b.lay h
    refine ⟨?_, ?_⟩
    · simp only [Tr.dat, PyData.canLay0, PyData.canLayAll0, h1]
      decide +kernel
    · simp only [Tr.dat, PyData.depth, PyData.depthAll, Tr.deep]
      omega
structure Wk where
  p : List Nat
  t : Tr
  b : List (Option Str)
def Wk.kids (w : Wk) : List Wk := match w.t with
  | .a x y => [⟨w.p ++ [1], y, w.b⟩, ⟨w.p ++ [0], x, w.b⟩]
  | .l m c => [⟨w.p ++ [0], c, w.b ++ [m]⟩]
  | _ => []
theorem drels_path {S : Store} : ∀ p : List Nat, DRels S (p.map fun n : Nat => Val.int (n : Int)) (p.map fun n : Nat => PyData.int (n : Int))
  | [] => .nil
  | n :: p => .cons (.int _) (drels_path p)
theorem path_lay : ∀ p : List Nat, PyData.canLayAll0 (p.map fun n : Nat => PyData.int (n : Int)) = true ∧ PyData.depthAll (p.map fun n : Nat => PyData.int (n : Int)) = 0
  | [] => ⟨by simp [PyData.canLayAll0], by simp [PyData.depthAll]⟩
  | n :: p => by
    obtain ⟨h1, h2⟩ := path_lay p
    exact ⟨by simp [PyData.canLayAll0, PyData.canLay0, h1], by simp [PyData.depthAll, PyData.depth, h2]⟩
end G

set_option Elab.async false
set_option linter.all false
set_option maxRecDepth 100000
set_option maxHeartbeats 1000000
set_option exponentiation.threshold 1000
namespace G
open PySem A3
theorem Tr.ty (t : Tr) (S : Store) : tyOk t.val S := by
  cases t with
  | l m b => cases m <;> rfl
  | _ => rfl
end G

set_option Elab.async false
set_option linter.all false
set_option maxRecDepth 100000
set_option maxHeartbeats 1000000
set_option exponentiation.threshold 1000
namespace G
open PySem A3
/-! ### marks -/
inductive Mk where
  | O
  | B
  | W (x : Str)
  | sy (x : Str)
  | nu (n : Nat)
  | tv (x : Ix)
def Mk.good : Mk → Bool
  | .W x => isName x
  | .sy x => isName x
  | .tv x => x.goodB && decide (x.deep ≤ 60)
  | _ => true
def Tr.mk : Tr → List Mk
  | .sy x => [.sy x]
  | .nu n => [.nu n]
  | .a x y => .O :: (x.mk ++ y.mk)
  | .l none b => .B :: b.mk
  | .l (some s) b => .W s :: b.mk
end G

set_option Elab.async false
set_option linter.all false
set_option maxRecDepth 100000
set_option maxHeartbeats 1000000
set_option exponentiation.threshold 1000
namespace G
open PySem A3
theorem Ix.nmF_good_deep {F : Nat → Str} {N : Nat} (hF : ∀ i, i < N → isName (F i) = true) : ∀ (x : Ix) (d : Nat), x.good → x.low d → d + x.deep ≤ N + 1 → (x.nmF F d).good = true
  | .nm s, d, g, h, hd => g s (by simp [Ix.nms])
  | .v n, d, g, h, hd => by
    have : n < d := h
    exact hF _ (by simp only [Ix.deep] at hd; omega)
  | .a f x, d, g, h, hd => by
    simp only [Ix.deep] at hd
    simp only [Ix.nmF, Tm.good, Ix.nmF_good_deep hF f d (fun s hs => g s (List.mem_append_left _ hs)) h.1 (by omega), Ix.nmF_good_deep hF x d (fun s hs => g s (List.mem_append_right _ hs)) h.2 (by omega)]
    rfl
  | .l b, d, g, h, hd => by
    simp only [Ix.deep] at hd
    have : 1 ≤ b.deep := by cases b <;> simp [Ix.deep]
    simp only [Ix.nmF, Tm.good, Ix.nmF_good_deep hF b (d + 1) g h (by omega), hF d (by omega)]
    rfl
theorem names_ok : ∀ i, i < 130 → isName (nameAt i) = true := by decide +kernel
theorem frC_name {l : List Str} {c : Nat} {s : Str} (hc : c ≤ 130) (h : s ∈ frC l c) : isName s = true ∧ s ∉ l := by
  unfold frC at h
  obtain ⟨h1, h2⟩ := List.mem_filter.mp h
  obtain ⟨i, hi, rfl⟩ := List.mem_map.mp h1
  have := List.mem_range.mp hi
  exact ⟨names_ok i (by omega), by simpa using h2⟩
theorem frF_name {l : List Str} {N : Nat} (h : N + l.length ≤ 130) : ∀ i, i < N → isName (frF l i) = true ∧ frF l i ∉ l := fun i hi => by
  have h1 := frC_len l (c := 130) (by decide)
  have h2 := frC_at l (c := 130) (i := i) (by decide) (by omega)
  exact frC_name (c := 130) (by decide) (List.mem_of_getElem? h2)
theorem frF_congr {l m : List Str} (h : ∀ k, k ∈ l ↔ k ∈ m) : frF l = frF m := by
  funext i
  unfold frF
  rw [frL_congr h]
/-- the letters, and those behind an a -/
def lettersS : List Str := smallS.cps.toList.map fun c => ⟨#[c]⟩
theorem Nx.frF {N : Nat} {x : Ix} (h : Nx N x) : ∃ ys : List Str, G.frF x.nms = G.frF ys ∧ x.deep + ys.length ≤ N ∧ ∀ k, k ∈ ys ↔ k ∈ x.nms := by
  obtain ⟨l, h1, h2, _⟩ := h
  have e : ∀ k, k ∈ (l.filter fun k => decide (k ∈ x.nms)) ↔ k ∈ x.nms := fun k => by
    rw [List.mem_filter]
    simp only [decide_eq_true_eq]
    exact ⟨fun z => z.2, fun z => ⟨h1 k z, z⟩⟩
  have := List.length_filter_le (fun k => decide (k ∈ x.nms)) l
  exact ⟨_, frF_congr fun k => (e k).symm, by omega, e⟩
theorem signs_letters : signs smallS = lettersS.map .str := by
  unfold signs lettersS
  rw [List.map_map]
  rfl
end G

set_option Elab.async false
set_option linter.all false
set_option maxRecDepth 100000
set_option maxHeartbeats 1000000
set_option exponentiation.threshold 1000
namespace G
open PySem A3
/-! ### what stays while numbers are drawn -/
def DX (S S' : Store) (h p : Addr) : Prop := Hand S' h p ∧ ∀ a c, a ≠ h → S a = some c → S' a = some c
theorem Hand.some_h {S : Store} {h p : Addr} (H : Hand S h p) : ∃ c, S h = some c := by
  obtain ⟨ns, i, j, k, l, a, _⟩ := H.ex
  exact ⟨_, a⟩
theorem Hand.some_p {S : Store} {h p : Addr} (H : Hand S h p) : ∃ c, S p = some c := by
  obtain ⟨ns, i, j, k, l, a, b, _⟩ := H.ex
  exact ⟨_, b⟩
theorem DX.refl {S : Store} {h p : Addr} (H : Hand S h p) : DX S S h p := ⟨H, fun _ _ _ e => e⟩
theorem DX.trans {S S1 S2 : Store} {h p : Addr} (a : DX S S1 h p) (b : DX S1 S2 h p) : DX S S2 h p := ⟨b.1, fun x c hx e => b.2 x c hx (a.2 x c hx e)⟩
theorem Drawn.dx {S S1 S2 : Store} {h p : Addr} (a : DX S S1 h p) (b : Drawn S1 S2 h p) : DX S S2 h p := ⟨b.1, fun x c hx e => by rw [b.2 x hx]; exact a.2 x c hx e⟩
theorem DX.ext {S S1 S2 : Store} {h p : Addr} (a : DX S S1 h p) (b : Ext S1 S2) : DX S S2 h p := ⟨a.1.ext b, fun x c hx e => b _ _ (a.2 x c hx e)⟩
theorem DX.none {S S1 : Store} {h p q : Addr} (a : DX S S1 h p) (n : S1 q = Option.none) : S q = Option.none := by
  obtain ⟨c, hc⟩ := a.1.some_h
  have hq : q ≠ h := fun e => by rw [e, hc] at n; cases n
  cases e : S q with
  | none => rfl
  | some d => rw [a.2 q d hq e] at n; cases n
/-- a new cell that was none at the start is written -/
theorem DX.put {S S1 : Store} {h p q : Addr} {c : Cell} (a : DX S S1 h p) (n : S q = Option.none) (hh : q ≠ h) (hp : q ≠ p) : DX S (ups S1 q c) h p := by
  obtain ⟨ns, i, j, k, l, e1, e2, r⟩ := a.1.ex
  refine ⟨⟨ns, i, j, k, l, by rw [ups_ne (Ne.symm hh)]; exact e1, by rw [ups_ne (Ne.symm hp)]; exact e2, r⟩, fun x d hx e => ?_⟩
  have : x ≠ q := fun z => by rw [z, n] at e; cases e
  rw [ups_ne this]
  exact a.2 x d hx e
theorem Hand.new {S : Store} {h p q : Addr} (H : Hand S h p) (n : S q = Option.none) : q ≠ h ∧ q ≠ p := by
  obtain ⟨c, hc⟩ := H.some_h
  obtain ⟨d, hd⟩ := H.some_p
  exact ⟨fun e => (by rw [e, hc] at n; cases n), fun e => by rw [e, hd] at n; cases n⟩
end G

set_option Elab.async false
set_option linter.all false
set_option maxRecDepth 100000
set_option maxHeartbeats 1000000
set_option exponentiation.threshold 1000
namespace G
open PySem A3
def Tm.names : Tm → List Str
  | .v s => [s]
  | .a f x => f.names ++ x.names
  | .l s b => s :: b.names
theorem Tm.good_of : ∀ (t : Tm), (∀ s, s ∈ t.names → isName s = true) → t.good = true
  | .v s, h => h s (by simp [Tm.names])
  | .a f x, h => by
    simp only [Tm.good, f.good_of fun s hs => h s (List.mem_append_left _ hs), x.good_of fun s hs => h s (List.mem_append_right _ hs)]
    rfl
  | .l s b, h => by
    simp only [Tm.good, h s List.mem_cons_self, b.good_of fun s hs => h s (List.mem_cons_of_mem _ hs)]
    rfl
theorem Tm.idx_names : ∀ (t : Tm) (b : List Str) (s : Str), s ∈ (t.idx b).nms → s ∈ t.names
  | .v z, b, s, h => by
    simp only [Tm.idx] at h
    split at h
    · cases h
    · exact h
  | .a f x, b, s, h => by
    rcases List.mem_append.mp h with h | h
    · exact List.mem_append_left _ (f.idx_names b s h)
    · exact List.mem_append_right _ (x.idx_names b s h)
  | .l z t, b, s, h => List.mem_cons_of_mem _ (t.idx_names (z :: b) s h)
def tsz (ts : List Tm) : Nat := (ts.map Tm.size).sum
structure Ts (ns : List Str) (d : Nat) (ts : List Tm) : Prop where
  ok : ∀ t, t ∈ ts → t.deep ≤ d ∧ ∀ s, s ∈ t.names → s ∈ ns
theorem Ts.mono {ns : List Str} {d e : Nat} {ts us : List Tm} (h : Ts ns d ts) (k : d ≤ e) (m : ∀ t, t ∈ us → t ∈ ts) : Ts ns e us := ⟨fun t ht => ⟨Nat.le_trans (h.ok t (m t ht)).1 k, (h.ok t (m t ht)).2⟩⟩
end G

set_option Elab.async false
set_option linter.all false
set_option maxRecDepth 100000
set_option maxHeartbeats 1000000
set_option exponentiation.threshold 1000
namespace G
open PySem A3
/-! ### there and back -/
def upF (F : Nat → Str) : Nat → List Str
  | 0 => []
  | d + 1 => F d :: upF F d
theorem upF_mem {F : Nat → Str} : ∀ {d : Nat} {s : Str}, s ∈ upF F d → ∃ i, i < d ∧ s = F i
  | 0, s, h => by cases h
  | d + 1, s, h => by
    rcases List.mem_cons.mp h with h | h
    · exact ⟨d, by omega, h⟩
    · obtain ⟨i, h1, h2⟩ := upF_mem h
      exact ⟨i, by omega, h2⟩
theorem upF_idx {F : Nat → Str} {N : Nat} (inj : ∀ i, i < N → ∀ j, j < N → F i = F j → i = j) : ∀ {d i : Nat}, i < d → d ≤ N → F (d - 1 - i) ∈ upF F d ∧ (upF F d).idxOf (F (d - 1 - i)) = i
  | 0, i, h, _ => by omega
  | d + 1, 0, _, _ => by
    have e : d + 1 - 1 - 0 = d := by omega
    rw [e]
    exact ⟨List.mem_cons_self, by simp [upF]⟩
  | d + 1, i + 1, h, hN => by
    obtain ⟨h1, h2⟩ := upF_idx inj (d := d) (i := i) (by omega) (by omega)
    have e : d + 1 - 1 - (i + 1) = d - 1 - i := by omega
    rw [e]
    refine ⟨List.mem_cons_of_mem _ h1, ?_⟩
    have ne : ¬ F d = F (d - 1 - i) := fun z => by
      have := inj d (by omega) (d - 1 - i) (by omega) z
      omega
    show (F d :: upF F d).idxOf _ = _
    rw [List.idxOf_cons, h2]
    rw [beq_eq_false_iff_ne.mpr ne]
    rfl
theorem Ix.back {F : Nat → Str} {N : Nat} (inj : ∀ i, i < N → ∀ j, j < N → F i = F j → i = j) : ∀ (x : Ix) (d : Nat), x.low d → d + x.size ≤ N + 1 → (∀ s, s ∈ x.nms → ∀ i, i < N → F i ≠ s) → (x.nmF F d).idx (upF F d) = x
  | .nm s, d, _, hd, hs => by
    simp only [Ix.size] at hd
    simp only [Ix.nmF, Tm.idx]
    rw [if_neg fun z => ?_]
    obtain ⟨i, h1, h2⟩ := upF_mem z
    exact hs s (by simp [Ix.nms]) i (by omega) h2.symm
  | .v n, d, h, hd, _ => by
    simp only [Ix.size] at hd
    have h' : n < d := h
    obtain ⟨h1, h2⟩ := upF_idx inj h' (by omega)
    simp only [Ix.nmF, Tm.idx]
    rw [if_pos h1, h2]
  | .a f x, d, h, hd, hs => by
    simp only [Ix.size] at hd
    simp only [Ix.nmF, Tm.idx, Ix.back inj f d h.1 (by omega) fun s z => hs s (List.mem_append_left _ z), Ix.back inj x d h.2 (by omega) fun s z => hs s (List.mem_append_right _ z)]
  | .l b, d, h, hd, hs => by
    simp only [Ix.size] at hd
    have := Ix.back inj b (d + 1) h (by omega) hs
    simp only [Ix.nmF, Tm.idx]
    rw [show F d :: upF F d = upF F (d + 1) from rfl, this]
theorem Ix.back_deep {F : Nat → Str} {N : Nat} (inj : ∀ i, i < N → ∀ j, j < N → F i = F j → i = j) : ∀ (x : Ix) (d : Nat), x.low d → d + x.deep ≤ N + 1 → (∀ s, s ∈ x.nms → ∀ i, i < N → F i ≠ s) → (x.nmF F d).idx (upF F d) = x
  | .nm s, d, _, hd, hs => by
    simp only [Ix.deep] at hd
    simp only [Ix.nmF, Tm.idx]
    rw [if_neg fun z => ?_]
    obtain ⟨i, h1, h2⟩ := upF_mem z
    exact hs s (by simp [Ix.nms]) i (by omega) h2.symm
  | .v n, d, h, hd, _ => by
    simp only [Ix.deep] at hd
    have h' : n < d := h
    obtain ⟨h1, h2⟩ := upF_idx inj h' (by omega)
    simp only [Ix.nmF, Tm.idx]
    rw [if_pos h1, h2]
  | .a f x, d, h, hd, hs => by
    simp only [Ix.deep] at hd
    simp only [Ix.nmF, Tm.idx]
    rw [Ix.back_deep inj f d h.1 (by omega) fun s z => hs s (List.mem_append_left _ z), Ix.back_deep inj x d h.2 (by omega) fun s z => hs s (List.mem_append_right _ z)]
  | .l b, d, h, hd, hs => by
    simp only [Ix.deep] at hd
    simp only [Ix.nmF, Tm.idx]
    have e := Ix.back_deep inj b (d + 1) h (by omega) hs
    simp only [upF] at e
    rw [e]
theorem nodup_inj {l : List Str} (nd : l.Nodup) {i j : Nat} {x : Str} (hi : l[i]? = some x) (hj : l[j]? = some x) : i = j := by
  obtain ⟨a1, a2⟩ := List.getElem?_eq_some_iff.mp hi
  obtain ⟨b1, b2⟩ := List.getElem?_eq_some_iff.mp hj
  have pw := List.pairwise_iff_getElem.mp nd
  rcases Nat.lt_trichotomy i j with h | h | h
  · exact absurd (a2.trans b2.symm) (pw i j a1 b1 h)
  · exact h
  · exact absurd (b2.trans a2.symm) (pw j i b1 a1 h)
theorem frF_inj {l : List Str} {N : Nat} (h : N + l.length ≤ 130) : ∀ i, i < N → ∀ j, j < N → frF l i = frF l j → i = j := fun i hi j hj e => by
  have h1 := frC_len l (c := 130) (by decide)
  have h2 := frC_at l (c := 130) (i := i) (by decide) (by omega)
  have h3 := frC_at l (c := 130) (i := j) (by decide) (by omega)
  have nd : (frC l 130).Nodup := by
    refine List.Sublist.nodup (frC_pre l (by decide)).sublist ?_
    unfold frL
    exact List.Sublist.nodup List.filter_sublist names130
  rw [e] at h2
  exact nodup_inj nd h2 h3
end G

set_option Elab.async false
set_option linter.all false
set_option maxRecDepth 100000
set_option maxHeartbeats 1000000
set_option exponentiation.threshold 1000
namespace G
open PySem A3
/-- lists stay, but for the hand's own -/
def DN (S S' : Store) (h p : Addr) : Prop := Hand S' h p ∧ ∀ a xs, a ≠ h → S a = some (.lst xs) → S' a = some (.lst xs)
theorem DN.refl {S : Store} {h p : Addr} (H : Hand S h p) : DN S S h p := ⟨H, fun _ _ _ e => e⟩
theorem DN.trans {S S1 S2 : Store} {h p : Addr} (a : DN S S1 h p) (b : DN S1 S2 h p) : DN S S2 h p := ⟨b.1, fun x c hx e => b.2 x c hx (a.2 x c hx e)⟩
theorem DN.dx {S S1 S2 : Store} {h p : Addr} (a : DN S S1 h p) (b : DX S1 S2 h p) : DN S S2 h p := ⟨b.1, fun x c hx e => b.2 x _ hx (a.2 x c hx e)⟩
theorem DN.ext {S S1 S2 : Store} {h p : Addr} (a : DN S S1 h p) (b : Ext S1 S2) : DN S S2 h p := ⟨a.1.ext b, fun x c hx e => b _ _ (a.2 x c hx e)⟩
theorem DN.clo {S : Store} {c h p : Addr} {q : Str} {es : AEnv} {s : St} (H : Hand S h p) (hc : ∀ d, S c = some d → ∃ q e s, d = .clo q e s) : DN S (ups S c (.clo q es s)) h p := by
  have ne : ∀ a xs, S a = some (.lst xs) → a ≠ c := fun a xs e z => by
    subst z
    obtain ⟨_, _, _, hd⟩ := hc _ e
    cases hd
  obtain ⟨ns, i, j, k, l, a, b, r⟩ := H.ex
  exact ⟨⟨ns, i, j, k, l, by rw [ups_ne (ne _ _ a)]; exact a, by rw [ups_ne (ne _ _ b)]; exact b, r⟩, fun x xs _ e => by rw [ups_ne (ne _ _ e)]; exact e⟩
/-- things that are kept: no other heap things than lists -/
inductive LstV (S : Store) (h : Addr) : Val → Prop
  | non : LstV S h .non
  | bl (b : Bool) : LstV S h (.bl b)
  | int (i : Int) : LstV S h (.int i)
  | str {s : Str} : s.length ≤ 1000 → LstV S h (.str s)
  | tup {xs : List Val} : (∀ y, y ∈ xs → LstV S h y) → LstV S h (.tup xs)
  | ref {q : Addr} {xs : List Val} : q ≠ h → S q = some (.lst xs) → LstV S h (.ref q)
theorem LstV.any {S : Store} {h : Addr} {x : Val} (l : LstV S h x) : AnyV S x := by
  induction l with
  | non => exact .non
  | bl b => exact .bl b
  | int i => exact .int i
  | str h => exact .str h
  | tup _ ih => exact .tup ih
  | ref _ e => exact .ref (by simp [tyOk, tyV?, e])
theorem LstV.dn {S S' : Store} {h p : Addr} {x : Val} (l : LstV S h x) (d : DN S S' h p) : LstV S' h x := by
  induction l with
  | non => exact .non
  | bl b => exact .bl b
  | int i => exact .int i
  | str h => exact .str h
  | tup _ ih => exact .tup ih
  | ref n e => exact .ref n (d.2 _ _ n e)
theorem Tm.lst {S : Store} {h : Addr} : ∀ (t : Tm), t.good = true → LstV S h t.val
  | .v s, g => .str (by have := isName_len g; omega)
  | .a f x, g => by
    simp only [Tm.good, Bool.and_eq_true] at g
    refine .tup fun y hy => ?_
    simp only [List.mem_cons, List.not_mem_nil, or_false] at hy
    rcases hy with rfl | rfl | rfl
    · exact .str (by decide)
    · exact f.lst g.1
    · exact x.lst g.2
  | .l s b, g => by
    simp only [Tm.good, Bool.and_eq_true] at g
    refine .tup fun y hy => ?_
    simp only [List.mem_cons, List.not_mem_nil, or_false] at hy
    rcases hy with rfl | rfl | rfl
    · exact .str (by decide)
    · exact .str (by have := isName_len g.1; omega)
    · exact b.lst g.2
theorem LstV.path {S : Store} {h : Addr} (p : List Nat) : LstV S h (pathV p) := .tup fun y hy => by
  obtain ⟨n, _, rfl⟩ := List.mem_map.mp hy
  exact .int _
/-! data of paths -/
def pathD (p : List Nat) : PyData := .tuple (p.map fun n : Nat => PyData.int (n : Int))
theorem path_eqv : ∀ p q : List Nat, PyData.eqvAll (p.map fun n : Nat => PyData.int (n : Int)) (q.map fun n : Nat => PyData.int (n : Int)) = decide (p = q)
  | [], [] => by simp [PyData.eqvAll]
  | [], _ :: _ => by simp [PyData.eqvAll]
  | _ :: _, [] => by simp [PyData.eqvAll]
  | a :: p, b :: q => by
    simp only [List.map_cons, PyData.eqvAll, PyData.eqv, path_eqv p q, List.cons.injEq]
    by_cases h : a = b
    · subst h; by_cases k : p = q <;> simp [k]
    · have : ¬ ((a : Int) = (b : Int)) := by omega
      simp [h, this]
theorem pathD_eqv (p q : List Nat) : PyData.eqv (pathD p) (pathD q) = decide (p = q) := by
  simp only [pathD, PyData.eqv, path_eqv]
theorem paths_lay : ∀ ps : List (List Nat), PyData.canLayAll0 (ps.map pathD) = true ∧ PyData.depthAll (ps.map pathD) ≤ 1
  | [] => ⟨by simp [PyData.canLayAll0], by simp [PyData.depthAll]⟩
  | p :: ps => by
    obtain ⟨h1, h2⟩ := paths_lay ps
    obtain ⟨h3, h4⟩ := path_lay p
    refine ⟨by simp [PyData.canLayAll0, PyData.canLay0, pathD, h1, h3], ?_⟩
    simp only [List.map_cons, PyData.depthAll, pathD, PyData.depth, h4]
    omega
theorem paths_drel {S : Store} : ∀ ps : List (List Nat), DRels S (ps.map pathV) (ps.map pathD)
  | [] => .nil
  | p :: ps => .cons (.tup (drels_path p)) (paths_drel ps)
end G

set_option Elab.async false
set_option linter.all false
set_option maxRecDepth 100000
set_option maxHeartbeats 1000000
set_option exponentiation.threshold 1000
namespace G
open PySem A3
theorem none_1 : isTermV .non = false := by decide +kernel
theorem none_2 : isTermV (.int 0) = false := by decide +kernel
theorem none_3 : isTermV (.tup [.str "of", .str "a"]) = false := by decide +kernel
/-- a list is written anew: what is a list stays one -/
theorem LstV.put {S : Store} {h q : Addr} {x : Val} {xs ys : List Val} (l : LstV S h x) (hq : S q = some (.lst xs)) : LstV (ups S q (.lst ys)) h x := by
  induction l with
  | non => exact .non
  | bl b => exact .bl b
  | int i => exact .int i
  | str h => exact .str h
  | tup _ ih => exact .tup ih
  | @ref a _ n e =>
    by_cases z : a = q
    · subst z; exact .ref n ups_same
    · exact .ref n (by rw [ups_ne z]; exact e)
end G

set_option Elab.async false
set_option linter.all false
set_option maxRecDepth 100000
set_option maxHeartbeats 1000000
set_option exponentiation.threshold 1000
namespace G
open PySem A3
/-- a right term -/
structure Rt (t : Tm) : Prop where
  sz : t.size ≤ 120
  dp : t.deep ≤ 16
  gd : t.good = true
  nx : Nx 52 (t.idx [])
theorem Rt.term {t : Tm} (h : Rt t) : isTermV t.val = true := isTermV_good h.gd h.dp h.sz
/-- a right numbered one -/
structure Rx (x : Ix) : Prop where
  lo : x.low 0
  gd : x.good
  dp : x.deep ≤ 16
  sz : x.size ≤ 120
  nx : Nx 52 x
def namT (x : Ix) : Tm := x.nmF (frF x.nms) 0
theorem namT_good {x : Ix} (g : x.good) (l : x.low 0) (n : Nx 120 x) : (namT x).good = true := by
  obtain ⟨ys, e, h1, _⟩ := n.frF
  rw [namT, e]
  exact Ix.nmF_good_deep (N := x.deep) (fun i hi => (frF_name (by omega) i hi).1) x 0 g l (by omega)
theorem namT_back {x : Ix} (l : x.low 0) (n : Nx 120 x) : (namT x).idx [] = x := by
  obtain ⟨ys, e, h1, h2⟩ := n.frF
  rw [namT, e]
  exact Ix.back_deep (frF_inj (N := x.deep) (l := ys) (by omega)) x 0 l (by omega) fun s z i hi e' => (frF_name (by omega) i hi).2 ((h2 _).mpr (e' ▸ z))
theorem Rx.back {x : Ix} (h : Rx x) : (namT x).idx [] = x := namT_back h.lo (h.nx.mono (by decide))
theorem Rx.named {x : Ix} (h : Rx x) : Rt (namT x) :=
  ⟨by have := h.sz; rw [namT, Ix.nmF_size]; exact this, by have := h.dp; rw [namT, Ix.nmF_deep]; exact this, namT_good h.gd h.lo (h.nx.mono (by decide)), by rw [h.back]; exact h.nx⟩
theorem Rt.idx {t : Tm} (h : Rt t) : Rx (t.idx []) :=
  ⟨t.idx_low [], t.idx_good [] h.gd, by rw [t.idx_deep]; exact h.dp, by rw [t.idx_size]; exact h.sz, h.nx⟩
theorem Rt.plain {t : Tm} (h : Rt t) : Rt (plainT t) := h.idx.named
end G

set_option Elab.async false
set_option linter.all false
set_option maxRecDepth 100000
set_option maxHeartbeats 1000000
set_option exponentiation.threshold 1000
namespace G
open PySem A3
abbrev En3 := Val × Nat × Nat
def w3 (e : En3) : Val := .tup [e.1, .int (e.2.1 : Int), .int (e.2.2 : Int)]
/-- a list is written anew: what may be given stays -/
theorem AnyV.put {S : Store} {w : Addr} {c : List Val} {v : Val} (hv : AnyV S v) : AnyV (ups S w (.lst c)) v := by
  induction hv with
  | non => exact .non
  | bl b => exact .bl b
  | int i => exact .int i
  | str h => exact .str h
  | tup _ ih => exact .tup ih
  | @ref p h =>
    refine .ref ?_
    by_cases e : p = w
    · subst e
      unfold tyOk
      simp only [tyV?, ups_same]
      rfl
    · unfold tyOk at h ⊢
      simp only [tyV?, ups_ne e] at h ⊢
      exact h
end G

set_option Elab.async false
set_option linter.all false
set_option maxRecDepth 100000
set_option maxHeartbeats 1000000
set_option exponentiation.threshold 1000
namespace G
open PySem A3
variable {B C : Addr → Prop}
/-! ### things that read as data -/
inductive DV (S : Store) (B : Addr → Prop) : Nat → Val → Prop
  | non (n : Nat) : DV S B n .non
  | bl (n : Nat) (b : Bool) : DV S B n (.bl b)
  | int (n : Nat) (i : Int) : DV S B n (.int i)
  | str (n : Nat) {s : Str} : s.length ≤ 1000 → PyData.strOk s = true → DV S B n (.str s)
  | tup {n : Nat} {xs : List Val} : (∀ y, y ∈ xs → DV S B n y) → DV S B (n + 1) (.tup xs)
  | ref {n : Nat} {q : Addr} {xs : List Val} : ¬ B q → S q = some (.lst xs) → (∀ y, y ∈ xs → DV S B n y) → DV S B (n + 1) (.ref q)
theorem DV.mono {S : Store} {n : Nat} {v : Val} (h : DV S B n v) : ∀ {m : Nat}, n ≤ m → DV S B m v := by
  induction h with
  | non n => intro m _; exact .non m
  | bl n b => intro m _; exact .bl m b
  | int n i => intro m _; exact .int m i
  | str n a b => intro m _; exact .str m a b
  | @tup n xs _ ih =>
    intro m hm
    obtain ⟨m, rfl⟩ : ∃ k, m = k + 1 := ⟨m - 1, by omega⟩
    exact .tup fun y hy => ih y hy (by omega)
  | @ref n q xs nb e _ ih =>
    intro m hm
    obtain ⟨m, rfl⟩ : ∃ k, m = k + 1 := ⟨m - 1, by omega⟩
    exact .ref nb e fun y hy => ih y hy (by omega)
theorem DV.ext {S S' : Store} {n : Nat} {v : Val} (h : DV S B n v) (X : ∀ a xs, ¬ B a → S a = some (.lst xs) → S' a = some (.lst xs)) : DV S' B n v := by
  induction h with
  | non n => exact .non n
  | bl n b => exact .bl n b
  | int n i => exact .int n i
  | str n a b => exact .str n a b
  | tup _ ih => exact .tup ih
  | ref nb e _ ih => exact .ref nb (X _ _ nb e) ih
theorem DV.exts {S S' : Store} {n : Nat} {v : Val} (h : DV S B n v) (X : Ext S S') : DV S' B n v := h.ext fun a xs _ e => X _ _ e
theorem DV.any {S : Store} {n : Nat} {v : Val} (h : DV S B n v) : AnyV S v := by
  induction h with
  | non n => exact .non
  | bl n b => exact .bl b
  | int n i => exact .int i
  | str n a b => exact .str a
  | tup _ ih => exact .tup ih
  | ref _ e _ ih => exact .ref (by simp [tyOk, tyV?, e])
theorem dats {S : Store} {n : Nat} : ∀ xs : List Val, (∀ y, y ∈ xs → ∃ d, DRel S y d ∧ PyData.canLay0 d = true ∧ PyData.depth d ≤ n) → ∃ ds, DRels S xs ds ∧ PyData.canLayAll0 ds = true ∧ PyData.depthAll ds ≤ n
  | [], _ => ⟨[], .nil, by simp [PyData.canLayAll0], by simp [PyData.depthAll]⟩
  | x :: xs, h => by
    obtain ⟨d, h1, h2, h3⟩ := h x List.mem_cons_self
    obtain ⟨ds, g1, g2, g3⟩ := dats xs fun y hy => h y (List.mem_cons_of_mem _ hy)
    exact ⟨d :: ds, .cons h1 g1, by simp [PyData.canLayAll0, h2, g2], by simp only [PyData.depthAll]; omega⟩
theorem DV.dat {S : Store} {n : Nat} {v : Val} (h : DV S B n v) : ∃ d, DRel S v d ∧ PyData.canLay0 d = true ∧ PyData.depth d ≤ n := by
  induction h with
  | non n => exact ⟨.none, .non, by simp [PyData.canLay0], by simp [PyData.depth]⟩
  | bl n b => exact ⟨.bool b, .bl b, by simp [PyData.canLay0], by simp [PyData.depth]⟩
  | int n i => exact ⟨.int i, .int i, by simp [PyData.canLay0], by simp [PyData.depth]⟩
  | @str n s a b => exact ⟨.str s, .str s, by simpa [PyData.canLay0] using b, by simp [PyData.depth]⟩
  | tup _ ih =>
    obtain ⟨ds, g1, g2, g3⟩ := dats _ ih
    exact ⟨.tuple ds, .tup g1, by simpa [PyData.canLay0] using g2, by simp only [PyData.depth]; omega⟩
  | ref _ e _ ih =>
    obtain ⟨ds, g1, g2, g3⟩ := dats _ ih
    exact ⟨.list ds, .lst (.inl e) g1, by simpa [PyData.canLay0] using g2, by simp only [PyData.depth]; omega⟩
theorem Ix.dv {S : Store} : ∀ x : Ix, x.good → DV S B x.deep x.val
  | .nm s, g => .str _ (by have := isName_len (g s (by simp [Ix.nms])); omega) (isName_ok (g s (by simp [Ix.nms])))
  | .v _, _ => .int _ _
  | .a f x, g => .tup fun y hy => by
    simp only [List.mem_cons, List.not_mem_nil, or_false] at hy
    rcases hy with rfl | rfl | rfl
    · exact .str _ (by decide) (by decide +kernel)
    · exact (f.dv fun s hs => g s (List.mem_append_left _ hs)).mono (by omega)
    · exact (x.dv fun s hs => g s (List.mem_append_right _ hs)).mono (by omega)
  | .l b, g => .tup fun y hy => by
    simp only [List.mem_cons, List.not_mem_nil, or_false] at hy
    rcases hy with rfl | rfl
    · exact .str _ (by decide) (by decide +kernel)
    · exact b.dv g
theorem Tm.dv {S : Store} : ∀ t : Tm, t.good = true → DV S B t.deep t.val
  | .v s, g => .str _ (by have := isName_len g; omega) (isName_ok g)
  | .a f x, g => .tup fun y hy => by
    simp only [Tm.good, Bool.and_eq_true] at g
    simp only [List.mem_cons, List.not_mem_nil, or_false] at hy
    rcases hy with rfl | rfl | rfl
    · exact .str _ (by decide) (by decide +kernel)
    · exact (f.dv g.1).mono (by omega)
    · exact (x.dv g.2).mono (by omega)
  | .l s b, g => .tup fun y hy => by
    simp only [Tm.good, Bool.and_eq_true] at g
    simp only [List.mem_cons, List.not_mem_nil, or_false] at hy
    rcases hy with rfl | rfl | rfl
    · exact .str _ (by decide) (by decide +kernel)
    · exact .str _ (by have := isName_len g.1; omega) (isName_ok g.1)
    · exact b.dv g.2
end G

set_option Elab.async false
set_option linter.all false
set_option maxRecDepth 100000
set_option maxHeartbeats 1000000
set_option exponentiation.threshold 1000
namespace G
open PySem A3
theorem DV.dx {B : Addr → Prop} {S S' : Store} {h p : Addr} {n : Nat} {v : Val} (d : DV S B n v) (bh : B h) (D : DX S S' h p) : DV S' B n v := d.ext fun a xs nb e => D.2 _ _ (fun z => nb (z ▸ bh)) e
end G

set_option Elab.async false
set_option linter.all false
set_option maxRecDepth 100000
set_option maxHeartbeats 1000000
set_option exponentiation.threshold 1000
namespace G
open PySem A3
theorem DV.dn {B : Addr → Prop} {S S' : Store} {h p : Addr} {n : Nat} {v : Val} (d : DV S B n v) (bh : B h) (D : DN S S' h p) : DV S' B n v := d.ext fun a xs nb e => D.2 _ _ (fun z => nb (z ▸ bh)) e
/-- what bent goes down through -/
def PB (v : Val) : Prop := (∃ x : Ix, v = x.val ∧ x.good ∧ x.deep ≤ 16) ∨ v = .str "of" ∨ v = .str "with"
theorem PB.dv {B : Addr → Prop} {S : Store} {v : Val} (h : PB v) : DV S B 16 v := by
  rcases h with ⟨x, rfl, g, d⟩ | rfl | rfl
  · exact (x.dv g).mono d
  · exact .str _ (by decide) (by decide +kernel)
  · exact .str _ (by decide) (by decide +kernel)
end G

set_option Elab.async false
set_option linter.all false
set_option maxRecDepth 100000
set_option maxHeartbeats 1000000
set_option exponentiation.threshold 1000
namespace G
open PySem A3
/-- all terms of p parts with numbers below n -/
def lstF : Nat → Nat → Nat → List Ix
  | 0, _, _ => []
  | _ + 1, 0, _ => []
  | _ + 1, 1, n => (List.range n).map .v
  | f + 1, p + 2, n => ((List.range p).flatMap fun i => (lstF f (i + 1) n).flatMap fun g => (lstF f (p - i) n).map fun x => .a g x) ++ (lstF f (p + 1) (n + 1)).map .l
def lst (p n : Nat) : List Ix := lstF p p n
end G

set_option Elab.async false
set_option linter.all false
set_option maxRecDepth 100000
set_option maxHeartbeats 1000000
set_option exponentiation.threshold 1000
namespace G
open PySem A3
structure Nd where
  p : List Nat
  x : Ix
  d : Nat
def nodesI : Ix → List Nat → Nat → List Nd
  | .nm s, p, d => [⟨p, .nm s, d⟩]
  | .v n, p, d => [⟨p, .v n, d⟩]
  | .a f x, p, d => ⟨p, .a f x, d⟩ :: (nodesI f (p ++ [0]) d ++ nodesI x (p ++ [1]) d)
  | .l b, p, d => ⟨p, .l b, d⟩ :: nodesI b (p ++ [0]) (d + 1)
def Nd.nodes (n : Nd) : List Nd := nodesI n.x n.p n.d
def Nd.kids (n : Nd) : List Nd := match n.x with
  | .nm _ => []
  | .v _ => []
  | .a f x => [⟨n.p ++ [0], f, n.d⟩, ⟨n.p ++ [1], x, n.d⟩]
  | .l b => [⟨n.p ++ [0], b, n.d + 1⟩]
theorem Nd.nodes_eq (n : Nd) : n.nodes = n :: n.kids.flatMap Nd.nodes := by
  obtain ⟨p, x, d⟩ := n
  cases x <;> simp [Nd.nodes, Nd.kids, nodesI]
theorem nodesI_len : ∀ (x : Ix) (p : List Nat) (d : Nat), (nodesI x p d).length = x.size
  | .nm _, _, _ => rfl
  | .v _, _, _ => rfl
  | .a f x, p, d => by
    simp only [nodesI, Ix.size, List.length_cons, List.length_append, nodesI_len f, nodesI_len x]
  | .l b, p, d => by simp only [nodesI, Ix.size, List.length_cons, nodesI_len b]
theorem nodesI_in : ∀ (x : Ix) (p : List Nat) (d : Nat) (n : Nd), n ∈ nodesI x p d → n.p.length + n.x.size ≤ p.length + x.size
  | .nm _, p, d, n, h => by
    have := List.mem_singleton.mp h
    subst this
    exact Nat.le_refl _
  | .v _, p, d, n, h => by
    have := List.mem_singleton.mp h
    subst this
    exact Nat.le_refl _
  | .a f x, p, d, n, h => by
    simp only [nodesI, List.mem_cons, List.mem_append] at h
    rcases h with rfl | h | h
    · exact Nat.le_refl _
    · have := nodesI_in f _ _ n h
      simp only [List.length_append, List.length_cons, List.length_nil, Ix.size] at this ⊢
      omega
    · have := nodesI_in x _ _ n h
      simp only [List.length_append, List.length_cons, List.length_nil, Ix.size] at this ⊢
      omega
  | .l b, p, d, n, h => by
    simp only [nodesI, List.mem_cons] at h
    rcases h with rfl | h
    · exact Nat.le_refl _
    · have := nodesI_in b _ _ n h
      simp only [List.length_append, List.length_cons, List.length_nil, Ix.size] at this ⊢
      omega
def entI (n : Nd) : Val := .tup [pathV n.p, n.x.val, .int (n.d : Int)]
theorem Ix.ty (x : Ix) (S : Store) : A3.tyOk x.val S := by cases x <;> rfl
/-- the first m have their parts behind them -/
def OrdM (m : Nat) (L : List Nd) : Prop := ∀ (i : Nat) (n : Nd), i < m → L[i]? = some n → ∀ k, k ∈ n.kids → ∃ j, i < j ∧ L[j]? = some k
theorem OrdM.next {Dn Q : List Nd} {e : Nd} (h : OrdM Dn.length (Dn ++ e :: Q)) : OrdM (Dn.length + 1) ((Dn ++ e :: Q) ++ e.kids) := fun i n hi hn k hk => by
  have hl : i < (Dn ++ e :: Q).length := by simp; omega
  rw [List.getElem?_append_left hl] at hn
  rcases Nat.lt_or_ge i Dn.length with q | q
  · obtain ⟨j, h1, h2⟩ := h i n q hn k hk
    exact ⟨j, h1, by rw [List.getElem?_append_left (List.getElem?_eq_some_iff.mp h2).1]; exact h2⟩
  · have e1 : i = Dn.length := by omega
    subst e1
    have e2 : n = e := by simpa using hn.symm
    subst e2
    obtain ⟨t, ht⟩ := List.getElem?_of_mem hk
    refine ⟨(Dn ++ n :: Q).length + t, by simp; omega, ?_⟩
    rw [List.getElem?_append_right (by omega), Nat.add_sub_cancel_left]
    exact ht
def sp_parts_of (K : PySem.W.Frag) : ASp := fun va S R _ => ∃ x : Ix, va = [x.val] ∧ x.size ≤ 4000 ∧ ∀ q S' (L : List Nd), Ext S S' → S q = none → S' q = some (.lst (L.map entI)) → L.Perm (nodesI x [] 0) → OrdM L.length L → R (.ref q) S'
theorem isI_si {i : Int} {S : Store} : isI "str" (.int i) S = false := rfl
theorem pf_parts_of {K : PySem.W.Frag} : ∀ va S R RE, sp_parts_of K va S R RE → rd_parts_of K (sp_is_integer K) (D0 R RE) (astart N_parts_of va) S := by
  rintro va S0 R RE ⟨x, rfl, hs, ret⟩
  unfold rd_parts_of
  refine cut2 (fun es S => ∃ q, es = [some x.val, some (.ref q), some (.int 0), none, none, none, none, none, none] ∧ S0 q = none ∧ S = ups S0 q (.lst [entI ⟨[], x, 0⟩])) (fun N hN => ?_) ?_
  · simp! only []
    exact ⟨by decide, by decide, by decide, fun q hq => hN _ _ ⟨q, rfl, hq, rfl⟩⟩
  rintro _ _ ⟨q, rfl, q0, rfl⟩
  refine cut2 (fun es S => ∃ (L : List Nd) (o2 o3 o4 o5 o6 o7 o8 : Option Val), es = [some x.val, some (.ref q), o2, o3, o4, o5, o6, o7, o8] ∧ Ext S0 S ∧ S q = some (.lst (L.map entI)) ∧ L.Perm (nodesI x [] 0) ∧ OrdM L.length L) (fun N hN => ?_) ?_
  · refine ⟨fun n es S => ∃ (Dn Q : List Nd) (o3 o4 o5 o6 o7 o8 : Option Val), es = [some x.val, some (.ref q), some (.int (Dn.length : Int)), o3, o4, o5, o6, o7, o8] ∧ n = (Q.flatMap Nd.nodes).length ∧ Ext S0 S ∧ S q = some (.lst ((Dn ++ Q).map entI)) ∧ (Dn ++ Q.flatMap Nd.nodes).Perm (nodesI x [] 0) ∧ OrdM Dn.length (Dn ++ Q),
      ⟨_, [], [⟨[], x, 0⟩], _, _, _, _, _, _, rfl, rfl, .new q0, ups_same, by simp [Nd.nodes], fun i n h => absurd h (Nat.not_lt_zero i)⟩, ?_⟩
    rintro n _ S ⟨Dn, Q, o3, o4, o5, o6, o7, o8, rfl, hn, X, hq, hp, hord⟩
    dsimp! only [hq, List.length_map, List.length_append]
    refine ifD (fun lt => ?_) (fun lt => ?_)
    · obtain ⟨e, Q', rfl⟩ : ∃ e Q', Q = e :: Q' := by
        cases Q with
        | nil => simp at lt
        | cons e Q' => exact ⟨e, Q', rfl⟩
      have hp2 : ((Dn ++ [e]) ++ (Q' ++ e.kids).flatMap Nd.nodes).Perm (nodesI x [] 0) := by
        refine List.Perm.trans ?_ hp
        rw [List.flatMap_cons, Nd.nodes_eq e, List.append_assoc, List.cons_append, List.nil_append, List.flatMap_append, List.cons_append]
        exact List.Perm.append_left _ (List.Perm.cons _ (List.perm_append_comm ..))
      have hord2 : OrdM (Dn ++ [e]).length ((Dn ++ [e]) ++ (Q' ++ e.kids)) := by
        have := hord.next
        simpa using this
      have hn2 : ((Q' ++ e.kids).flatMap Nd.nodes).length < n := by
        rw [hn, List.flatMap_cons, Nd.nodes_eq e]
        simp only [List.flatMap_append, List.length_append, List.length_cons]
        omega
      have hmem := nodesI_in x [] 0 e (hp2.mem_iff.mp (by simp))
      simp only [List.length_nil, Nat.zero_add] at hmem
      have hlen : Dn.length + 1 + Q'.length + 2 ≤ 8000 := by
        have h1 := hp.length_eq
        rw [nodesI_len] at h1
        have h2 : ∀ l : List Nd, l.length ≤ (l.flatMap Nd.nodes).length := fun l => by
          induction l with
          | nil => exact Nat.le_refl _
          | cons e l ih =>
            have h3 : e.nodes.length = e.x.size := nodesI_len _ _ _
            have h4 := e.x.size_pos
            simp only [List.flatMap_cons, List.length_append, List.length_cons]
            omega
        have h3 := h2 (e :: Q')
        simp only [List.length_append, List.length_cons] at h1 h3
        omega
      have hget : ((Dn ++ e :: Q').map entI)[Dn.length]? = some (entI e) := by simp
      refine cut2 (fun es S1 => es = [some x.val, some (.ref q), some (.int (Dn.length : Int)), some (pathV e.p), some e.x.val, some (.int (e.d : Int)), o6, o7, o8] ∧ S = S1) (fun N hN => ?_) ?_
      · show sAsg _ _ _ _ _
        rw [x_asg]
        dsimp! only [hq, atI_nat, hget]
        exact tup3 (hN _ _ ⟨rfl, rfl⟩)
      rintro _ _ ⟨rfl, rfl⟩
      refine cut2 (fun es S1 => es = [some x.val, some (.ref q), some (.int ((Dn ++ [e]).length : Int)), some (pathV e.p), some e.x.val, some (.int (e.d : Int)), o6, o7, o8] ∧ S = S1) (fun N hN => ?_) ?_
      · simp! only []
        exact hN _ _ ⟨by simp, rfl⟩
      rintro _ _ ⟨rfl, rfl⟩
      refine hide fun N hN => ?_
      have fin : ∀ S1 o6 o7 o8, Ext S0 S1 → S1 q = some (.lst ((Dn ++ [e] ++ Q' ++ e.kids).map entI)) → N [some x.val, some (.ref q), some (.int ((Dn ++ [e]).length : Int)), some (pathV e.p), some e.x.val, some (.int (e.d : Int)), o6, o7, o8] S1 := fun S1 o6 o7 o8 h1 h2 =>
        hN _ _ ⟨_, hn2, Dn ++ [e], Q' ++ e.kids, _, _, _, _, _, _, rfl, rfl, h1, by rw [h2, List.append_assoc], hp2, hord2⟩
      have hq' : S q = some (.lst ((Dn ++ [e] ++ Q').map entI)) := by
        rw [hq]
        simp
      generalize hL : Dn ++ [e] ++ Q' = L at fin hq'
      have hLl : L.length ≤ 8000 := by
        rw [← hL]
        simp only [List.length_append, List.length_cons, List.length_nil]
        omega
      generalize ((Dn ++ [e]).length : Int) = sp at fin
      clear hN hn2 hp2 hord hord2 hp hq lt hget hL
      obtain ⟨p, y, d⟩ := e
      have hml : p.length + 1 ≤ sizeLine := by
        dsimp only at hmem
        simp only [sizeLine]
        omega
      cases y with
      | nm s =>
        simp! only [isI_ss, Ix.val]
        exact ⟨rfl, fin S _ _ _ X (by rw [hq']; simp [Nd.kids])⟩
      | v k =>
        simp! only [isI_si, Ix.val]
        exact ⟨rfl, _, rfl, rfl, fin S _ _ _ X (by rw [hq']; simp [Nd.kids])⟩
      | a g z =>
        have i0 : L2.atI [Val.str "of", g.val, z.val] 0 = some (.str "of") := rfl
        simp! only [isI_st, Ix.val]
        refine ⟨rfl, _, rfl, rfl, ?_⟩
        have i9 : isInt (.tup [.str "of", g.val, z.val]) = false := rfl
        have w0 : decide (Str.ofString "of" = Str.ofString "with") = false := by decide +kernel
        simp! only [i0, i9, w0]
        refine for_enL fun M hM => ?_
        simp! only [cut_d1, List.drop_succ_cons, List.drop_zero, x_kEnT]
        refine hM _ _ ⟨trivial, tup2 ?_⟩
        simp only [List.set_cons_zero, List.set_cons_succ]
        simp! only [hq', List.length_map]
        refine ⟨trivial, by decide, hml, by decide, by simp only [sizeLine]; omega, trivial, tup2 ?_⟩
        simp only [List.set_cons_zero, List.set_cons_succ]
        simp! only [ups_same, List.length_map, List.length_append, ups_ups]
        refine ⟨trivial, by decide, hml, by decide, by simp only [sizeLine]; omega, trivial, ?_⟩
        refine fin _ _ _ _ (X.put q0) ?_
        rw [ups_same]
        simp only [Nd.kids, List.map_append, List.map_cons, List.map_nil, entI, pathV, List.append_assoc, List.cons_append, List.nil_append, Int.add_zero]
        try rfl
      | l b =>
        have i0 : L2.atI [Val.str "with", b.val] 0 = some (.str "with") := rfl
        simp! only [isI_st, Ix.val]
        refine ⟨rfl, _, rfl, rfl, ?_⟩
        have i9 : isInt (.tup [.str "with", b.val]) = false := rfl
        have w0 : decide (Str.ofString "with" = Str.ofString "with") = true := by decide +kernel
        simp! only [i0, i9, w0]
        refine for_enL fun M hM => ?_
        simp! only [cut_d1, List.drop_succ_cons, List.drop_zero, x_kEnT]
        refine hM _ _ ⟨trivial, tup2 ?_⟩
        simp only [List.set_cons_zero, List.set_cons_succ]
        simp! only [hq', List.length_map]
        refine ⟨trivial, by decide, hml, by decide, by simp only [sizeLine]; omega, trivial, ?_⟩
        refine fin _ _ _ _ (X.put q0) ?_
        rw [ups_same]
        simp only [Nd.kids, List.map_append, List.map_cons, List.map_nil, entI, pathV]
        rfl
    · have hQ : Q = [] := by
        cases Q with
        | nil => rfl
        | cons a b => simp at lt; omega
      subst hQ
      rw [List.append_nil] at hq
      simp only [List.flatMap_nil, List.append_nil] at hp
      rw [List.append_nil] at hord
      exact hN _ _ ⟨Dn, _, _, _, _, _, _, _, rfl, X, hq, hp, hord⟩
  rintro _ S ⟨L, o2, o3, o4, o5, o6, o7, o8, rfl, X, hq, hp, hord⟩
  simp! only []
  exact ret q S L X q0 hq hp hord
def Ix.redex : Ix → Bool
  | .a (.l _) _ => true
  | _ => false
def sp_is_redex (K : PySem.W.Frag) : ASp := fun va S R _ => ∃ x : Ix, va = [x.val] ∧ R (.bl x.redex) S
theorem pf_is_redex {K : PySem.W.Frag} : ∀ va S R RE, sp_is_redex K va S R RE → rd_is_redex K (sp_is_integer K) (D0 R RE) (astart N_is_redex va) S := by
  rintro va S R RE ⟨x, rfl, ret⟩
  unfold rd_is_redex
  cases x with
  | nm s =>
    simp! only [isI_ss, Ix.val]
    exact ⟨rfl, ret⟩
  | v k =>
    simp! only [isI_si, Ix.val]
    exact ⟨rfl, _, rfl, rfl, ret⟩
  | l b =>
    have i0 : L2.atI [Val.str "with", b.val] 0 = some (.str "with") := rfl
    have i9 : isInt (.tup [.str "with", b.val]) = false := rfl
    have w0 : decide (Str.ofString "with" = Str.ofString "of") = false := by decide +kernel
    simp! only [isI_st, Ix.val]
    refine ⟨rfl, _, rfl, rfl, ?_⟩
    simp! only [i0, i9, w0]
    exact ret
  | a g z =>
    have i0 : L2.atI [Val.str "of", g.val, z.val] 0 = some (.str "of") := rfl
    have i1 : L2.atI [Val.str "of", g.val, z.val] 1 = some g.val := rfl
    have i9 : isInt (.tup [.str "of", g.val, z.val]) = false := rfl
    have w0 : decide (Str.ofString "of" = Str.ofString "of") = true := by decide +kernel
    simp! only [isI_st, Ix.val]
    refine ⟨rfl, _, rfl, rfl, ?_⟩
    simp! only [i0, i1, i9, w0]
    cases g with
    | nm s =>
      simp! only [isI_ss, Ix.val]
      exact ⟨rfl, ret⟩
    | v k =>
      simp! only [isI_si, Ix.val]
      exact ⟨rfl, _, rfl, rfl, ret⟩
    | l b =>
      have j0 : L2.atI [Val.str "with", b.val] 0 = some (.str "with") := rfl
      have j9 : isInt (.tup [.str "with", b.val]) = false := rfl
      have w1 : decide (Str.ofString "with" = Str.ofString "with") = true := by decide +kernel
      simp! only [isI_st, Ix.val]
      refine ⟨rfl, _, rfl, rfl, ?_⟩
      simp! only [j0, j9, w1]
      exact ret
    | a f y =>
      have j0 : L2.atI [Val.str "of", f.val, y.val] 0 = some (.str "of") := rfl
      have j9 : isInt (.tup [.str "of", f.val, y.val]) = false := rfl
      have w1 : decide (Str.ofString "of" = Str.ofString "with") = false := by decide +kernel
      simp! only [isI_st, Ix.val]
      refine ⟨rfl, _, rfl, rfl, ?_⟩
      simp! only [j0, j9, w1]
      exact ret
end G

set_option Elab.async false
set_option linter.all false
set_option maxRecDepth 100000
set_option maxHeartbeats 1000000
set_option exponentiation.threshold 1000
namespace G
open PySem A3
/-! ### a numbered term changed at its leaves -/
def Ix.atN : Ix → Nat → List Nat → Option (Ix × Nat)
  | x, d, [] => some (x, d)
  | .a f _, d, 0 :: r => f.atN d r
  | .a _ x, d, 1 :: r => x.atN d r
  | .l b, d, 0 :: r => b.atN (d + 1) r
  | _, _, _ => none
theorem Ix.atN_nil (x : Ix) (d : Nat) : x.atN d [] = some (x, d) := by cases x <;> rfl
theorem nodesI_at : ∀ (x : Ix) (p : List Nat) (d : Nat) (n : Nd), n ∈ nodesI x p d → ∃ r, n.p = p ++ r ∧ x.atN d r = some (n.x, n.d)
  | .nm s, p, d, n, h => by rw [List.mem_singleton.mp h]; exact ⟨[], by simp, rfl⟩
  | .v s, p, d, n, h => by rw [List.mem_singleton.mp h]; exact ⟨[], by simp, rfl⟩
  | .a f x, p, d, n, h => by
    rcases List.mem_cons.mp h with h | h
    · rw [h]; exact ⟨[], by simp, rfl⟩
    · rcases List.mem_append.mp h with h | h
      · obtain ⟨r, e1, e2⟩ := nodesI_at f _ d n h
        exact ⟨0 :: r, by rw [e1]; simp, e2⟩
      · obtain ⟨r, e1, e2⟩ := nodesI_at x _ d n h
        exact ⟨1 :: r, by rw [e1]; simp, e2⟩
  | .l b, p, d, n, h => by
    rcases List.mem_cons.mp h with h | h
    · rw [h]; exact ⟨[], by simp, rfl⟩
    · obtain ⟨r, e1, e2⟩ := nodesI_at b _ _ n h
      exact ⟨0 :: r, by rw [e1]; simp, e2⟩
theorem nodesI_inj {x : Ix} {p : List Nat} {d : Nat} {n m : Nd} (hn : n ∈ nodesI x p d) (hm : m ∈ nodesI x p d) (e : n.p = m.p) : n = m := by
  obtain ⟨r, e1, e2⟩ := nodesI_at x p d n hn
  obtain ⟨r', e3, e4⟩ := nodesI_at x p d m hm
  have : r = r' := by rw [e1, e3] at e; exact List.append_cancel_left e
  subst this
  rw [e2] at e4
  obtain ⟨p1, x1, d1⟩ := n
  obtain ⟨p2, x2, d2⟩ := m
  simp only [Option.some.injEq, Prod.mk.injEq] at e4
  dsimp only at e
  rw [e, e4.1, e4.2]
theorem nodesI_root (x : Ix) (p : List Nat) (d : Nat) : (⟨p, x, d⟩ : Nd) ∈ nodesI x p d := by cases x <;> simp [nodesI]
def Ix.chg (F : Nat → Ix → Ix) : Nat → Ix → Ix
  | d, .nm s => F d (.nm s)
  | d, .v n => F d (.v n)
  | d, .a f x => .a (f.chg F d) (x.chg F d)
  | d, .l b => .l (b.chg F (d + 1))
def Ix.leaf : Ix → Bool
  | .nm _ => true
  | .v _ => true
  | _ => false
def Nd.done (F : Nat → Ix → Ix) (n : Nd) : Ix := n.x.chg F n.d
/-- what is known of those behind i -/
def KnownI (F : Nat → Ix → Ix) (L : List Nd) (kvs : Dct) (i : Nat) : Prop := ∀ (k : Nat) (n : Nd), L[k]? = some n → i ≤ k → valA kvs (keyP n.p) = some (n.done F).val
theorem KnownI.put {F : Nat → Ix → Ix} {x : Ix} {L : List Nd} {kvs : Dct} {i : Nat} {n : Nd} (h : KnownI F L kvs (i + 1)) (hL : ∀ m, m ∈ L → m ∈ nodesI x [] 0) (hn : L[i]? = some n) : KnownI F L (putA kvs (keyP n.p) (n.done F).val) i := fun k m hm hk => by
  rw [valA_put]
  by_cases q : keyP n.p = keyP m.p
  · rw [if_pos q]
    rw [nodesI_inj (hL n (List.mem_of_getElem? hn)) (hL m (List.mem_of_getElem? hm)) (keyP_inj q)]
  · rw [if_neg q]
    have : k ≠ i := fun e => by
      subst e
      rw [hn] at hm
      cases hm
      exact q rfl
    exact h k m hm (by omega)
/-- changed, by what the handed def does at leaves -/
theorem changed_law {K : PySem.W.Frag} {act : AA → AE} {F : Nat → Ix → Ix} {x : Ix} {fv : Val} {S0 : Store} {R : AK} (hs : x.size ≤ 4000)
    (hact : ∀ (E : AX) (es : AEnv) (S : Store) (R : AK) (y : Ix) (d : Nat), Ext S0 S → y.leaf = true → es[4]? = some (some y.val) → es[5]? = some (some (.int (d : Int))) → es[1]? = some (some fv) → (∃ p, (⟨p, y, d⟩ : Nd) ∈ nodesI x [] 0) → (∀ S', Ext S S' → R (F d y).val S') → act (aCons (aVar 4) (aCons (aVar 5) aNil)) E es S R)
    (ret : ∀ S', Ext S0 S' → R (x.chg F 0).val S') : rd_changed K (sp_parts_of K) (sp_is_integer K) act { nx := fun _ S' => R .non S', rt := R } (astart N_changed [x.val, fv]) S0 := by
  unfold rd_changed
  refine cut2 (fun es S => ∃ k, es = [some x.val, some fv, some (.ref k), none, none, none] ∧ S0 k = none ∧ Ext S0 S ∧ S k = some (.dt [])) (fun N hN => ?_) ?_
  · simp! only []
    exact fun k hk => hN _ _ ⟨k, rfl, hk, .new hk, ups_same⟩
  rintro _ S ⟨k, rfl, k0, X, hk⟩
  refine cut2 (fun es S => ∃ (kvs : Dct) (o3 o4 o5 : Option Val), es = [some x.val, some fv, some (.ref k), o3, o4, o5] ∧ Ext S0 S ∧ S k = some (.dt kvs) ∧ valA kvs (keyP []) = some (x.chg F 0).val) (fun N hN => ?_) ?_
  · refine for_rest fun M hM => ?_
    dsimp! only []
    refine ⟨x, rfl, hs, fun q S1 L X1 q0 hq hp ho => ?_⟩
    have hkq : k ≠ q := ne_of_new hk q0
    dsimp! only [hq]
    intro r hr
    have hk1 := X1 _ _ hk
    have hkr : k ≠ r := ne_of_new hk1 hr
    have hL : ∀ m, m ∈ L → m ∈ nodesI x [] 0 := fun m hm => hp.mem_iff.mp hm
    have hll : L.length = x.size := by rw [hp.length_eq, nodesI_len]
    have e0 : (L.map entI).reverse = L.reverse.map entI := by rw [List.map_reverse]
    rw [e0]
    refine hM _ _ ⟨fun l es S => ∃ (i : Nat) (kvs : Dct) (o3 o4 o5 : Option Val), i ≤ L.length ∧ l = ((L.take i).reverse).map entI ∧ es = [some x.val, some fv, some (.ref k), o3, o4, o5] ∧ Ext S0 S ∧ S k = some (.dt kvs) ∧ S r = some (.lst (L.reverse.map entI)) ∧ KnownI F L kvs i ∧ kvs.length + i ≤ L.length,
      ⟨L.length, [], _, _, _, Nat.le_refl _, by rw [List.take_length], rfl, (X.trans X1).trans (.new hr), by rw [ups_ne hkr]; exact hk1, ups_same, fun j n hn hj => ?_, by simp⟩, ?_, ?_, ?_⟩
    · have := (List.getElem?_eq_some_iff.mp hn).1
      omega
    · rintro l es S ⟨i, kvs, o3, o4, o5, _, _, _, _, _, h, _⟩
      exact .inl h
    · clear hk X hq hr hk1
      rintro z l _ S ⟨i, kvs, o3, o4, o5, hi, hl, rfl, X, hk, hr, hkn, hlen⟩
      cases i with
      | zero => simp at hl
      | succ i =>
        obtain ⟨n, hn⟩ : ∃ n, L[i]? = some n := ⟨L[i], List.getElem?_eq_getElem (by omega)⟩
        have et : L.take (i + 1) = L.take i ++ [n] := by rw [List.take_add_one, hn]; rfl
        rw [et] at hl
        simp only [List.reverse_append, List.reverse_cons, List.reverse_nil, List.nil_append, List.cons_append, List.map_cons, List.cons.injEq] at hl
        obtain ⟨rfl, rfl⟩ := hl
        have hin := hL n (List.mem_of_getElem? hn)
        have hpl := nodesI_in x [] 0 n hin
        simp only [List.length_nil, Nat.zero_add] at hpl
        refine tup3 (v1 := pathV n.p) (v2 := n.x.val) (v3 := .int (n.d : Int)) ?_
        simp only [List.set_cons_zero, List.set_cons_succ]
        refine hide fun N2 hN2 => ?_
        have fin : ∀ S', Ext S S' → N2 [some x.val, some fv, some (.ref k), some (pathV n.p), some n.x.val, some (.int (n.d : Int))] (ups S' k (.dt (putA kvs (keyP n.p) (n.done F).val))) := fun S' X' => by
          refine hN2 _ _ ⟨i, _, _, _, _, by omega, rfl, rfl, (X.trans X').put k0, ups_same, by rw [ups_ne (Ne.symm hkr)]; exact X' _ _ hr, hkn.put hL hn, ?_⟩
          have := putA_len (kvs := kvs) (k := keyP n.p) (v := (n.done F).val)
          omega
        have kid : ∀ c, c ∈ n.kids → valA kvs (keyP c.p) = some (c.done F).val := fun c hc => by
          obtain ⟨j, h1, h2⟩ := ho i n (by omega) hn c hc
          exact hkn j c h2 (by omega)
        have hkl : kvs.length < sizeLine := by simp only [sizeLine]; omega
        have hml : (n.p.map fun n : Nat => Val.int (n : Int)).length + 1 ≤ sizeLine := by rw [List.length_map]; simp only [sizeLine]; omega
        have hstep : ∀ (E : AX) (y : Ix) (p : List Nat) (d : Nat), n = ⟨p, y, d⟩ → y.leaf = true → act (aCons (aVar 4) (aCons (aVar 5) aNil)) E [some x.val, some fv, some (.ref k), some (pathV p), some y.val, some (.int (d : Int))] S (fun v S' => kPut (.ref k) (pathV p) v S' fun S4 => N2 [some x.val, some fv, some (.ref k), some (pathV p), some y.val, some (.int (d : Int))] S4) := fun E y p d e hl => by
          subst e
          refine hact _ _ _ _ y d X hl rfl rfl rfl ⟨p, hin⟩ fun S' X' => ?_
          rw [x_kPut, X' _ _ hk]
          simp! only [putP]
          refine ⟨hkl, ?_⟩
          have z := fin S' X'
          cases y with
          | nm s => exact z
          | v m => exact z
          | a f g => cases hl
          | l b => cases hl
        obtain ⟨p, y, d⟩ := n
        dsimp only at hml fin kid ⊢
        cases y with
        | nm s =>
          rw [x_if]
          dsimp! only [isI_ss, Ix.val]
          refine ⟨rfl, ?_⟩
          rw [x_dput]
          exact hstep _ (.nm s) p d rfl rfl
        | v m =>
          rw [x_if]
          dsimp! only [isI_si, Ix.val]
          refine ⟨rfl, _, rfl, rfl, ?_⟩
          simp only [isInt]
          rw [if_pos trivial, x_dput]
          exact hstep _ (.v m) p d rfl rfl
        | a f g =>
          have i0 : L2.atI [Val.str "of", f.val, g.val] 0 = some (.str "of") := rfl
          have g1 := getP1 (kvs := kvs) p 0
          have g2 := getP1 (kvs := kvs) p 1
          rw [kid ⟨p ++ [0], f, d⟩ (by simp [Nd.kids])] at g1
          rw [kid ⟨p ++ [1], g, d⟩ (by simp [Nd.kids])] at g2
          have g1' : getD? (.dt kvs) (.tup ((p.map fun n : Nat => Val.int (n : Int)) ++ [Val.int 0])) = some (some (f.chg F d).val) := g1
          have g2' : getD? (.dt kvs) (.tup ((p.map fun n : Nat => Val.int (n : Int)) ++ [Val.int 1])) = some (some (g.chg F d).val) := g2
          simp! only [isI_st, Ix.val]
          refine ⟨rfl, _, rfl, rfl, ?_⟩
          simp only [isInt]
          simp! only [i0]
          refine ifD (fun _ => ?_) fun z => absurd trivial z
          simp! only [hk, g1', g2', putP]
          exact ⟨by decide, hml, by decide, hml, by decide, hkl, fin S (.refl S)⟩
        | l b =>
          have i0 : L2.atI [Val.str "with", b.val] 0 = some (.str "with") := rfl
          have g1 := getP1 (kvs := kvs) p 0
          rw [kid ⟨p ++ [0], b, d + 1⟩ (by simp [Nd.kids])] at g1
          have g1' : getD? (.dt kvs) (.tup ((p.map fun n : Nat => Val.int (n : Int)) ++ [Val.int 0])) = some (some (b.chg F (d + 1)).val) := g1
          simp! only [isI_st, Ix.val]
          refine ⟨rfl, _, rfl, rfl, ?_⟩
          simp only [isInt]
          simp! only [i0]
          refine ifD (fun z => absurd z (by decide)) fun _ => ?_
          simp! only [hk, g1', putP]
          exact ⟨by decide, hml, by decide, hkl, fin S (.refl S)⟩
    · clear hk X hq hr hk1
      rintro _ S ⟨i, kvs, o3, o4, o5, hi, hl, rfl, X, hk, hr, hkn, hlen⟩
      have h0 : i = 0 := by
        cases i with
        | zero => rfl
        | succ i =>
          have := congrArg List.length hl
          simp at this
          omega
      subst h0
      obtain ⟨j, hj⟩ := List.getElem?_of_mem (hp.mem_iff.mpr (nodesI_root x [] 0))
      exact hN _ _ ⟨kvs, _, _, _, rfl, X, hk, hkn j _ hj (Nat.zero_le _)⟩
  rintro _ S ⟨kvs, o3, o4, o5, rfl, X, hk, hv⟩
  have e0 : getD? (.dt kvs) (.tup []) = some (some (x.chg F 0).val) := by
    rw [← hv]
    rfl
  simp! only [hk, e0]
  exact ⟨by decide, ret S X⟩
end G

set_option Elab.async false
set_option linter.all false
set_option maxRecDepth 100000
set_option maxHeartbeats 1000000
set_option exponentiation.threshold 1000
namespace G
open PySem A3
theorem x_callN {Ng N' : List Str} {ia np n : Nat} {mk : Addr → NdefX.NF} {q : Str} {js : List Nat} {bd : AS} {rd : (AA → AE) → AS} {t : AA} {E : AX} {es : AEnv} {S : Store} {R : AK} : aCallN Ng ia np n mk q N' js bd rd t E es S R = t E es S fun vs S1 => vs.length = np ∧ ∃ f c', vs[ia]? = some (.ref f) ∧ S1 f = some (.nfn (mk c')) ∧ (∀ c, S1 c' = some c → ∃ q e s, c = .clo q e s) ∧
  ∀ σ0, rd (aActN f c' q σ0 (mk c') ia n N' js bd) { nx := fun _ S' => S' f = some (.nfn (mk c')) ∧ R .non (backS S1 c' S'), rt := fun v S' => S' f = some (.nfn (mk c')) ∧ R v (backS S1 c' S') } (astart Ng vs) (ups S1 c' (.clo q es σ0)) := rfl
theorem x_actN {f c' : Addr} {q : Str} {σ0 : L2.St} {F : NdefX.NF} {ia n : Nat} {N' : List Str} {js : List Nat} {bd : AS} {t : AA} {E : AX} {es : AEnv} {S : Store} {R : AK} : aActN f c' q σ0 F ia n N' js bd t E es S R = (es[ia]? = some (some (.ref f)) ∧ S f = some (.nfn F) ∧ t E es S fun vs S1 => vs.length = n ∧ S1 f = some (.nfn F) ∧
  ∃ es0, S1 c' = some (.clo q es0 σ0) ∧ bd { nx := fun _ S' => R .non S', rt := R } (astartF N' vs (js.map (slotA es0))) S1) := rfl
theorem ext_back {S S1 S' : Store} {f c' : Addr} {F : NdefX.NF} {c : Cell} (X0 : Ext S S1) (X : Ext (ups S1 c' c) S') : Ext S (backS S1 c' S') := fun a d e => backS_ext (c := c) (fun b u hb hu => X b u (by rw [ups_ne hb]; exact hu)) a d (X0 a d e)
/-- x(.., f), f handed to changed -/
theorem changed_call {K : PySem.W.Frag} {mk : Addr → NdefX.NF} {q : Str} {N' : List Str} {js : List Nat} {bd : AS} {F : Nat → Ix → Ix} {x : Ix} {f c' : Addr} {E : AX} {es : AEnv} {S : Store} {R : AK} {i j : Nat} (hs : x.size ≤ 4000) (hx : es[i]? = some (some x.val)) (hj : es[j]? = some (some (.ref f))) (hf : S f = some (.nfn (mk c'))) (hfc : f ≠ c') (hcl : ∀ c, S c' = some c → ∃ q e s, c = .clo q e s)
    (hb : ∀ (S' : Store) (R : AK) (y : Ix) (d : Nat), y.leaf = true → (∃ p, (⟨p, y, d⟩ : Nd) ∈ nodesI x [] 0) → (∀ S2, Ext S' S2 → R (F d y).val S2) → bd { nx := fun _ S' => R .non S', rt := R } (astartF N' [y.val, .int (d : Int)] (js.map (slotA es))) S')
    (ret : ∀ S', Ext S S' → R (x.chg F 0).val S') : aCallN N_changed 1 2 2 mk q N' js bd (rd_changed K (sp_parts_of K) (sp_is_integer K)) (aCons (aVar i) (aCons (aVar j) aNil)) E es S R := by
  rw [x_callN, x_cons, x_var, hx]
  dsimp only
  rw [x_cons, x_var, hj]
  dsimp only
  rw [x_nil]
  refine ⟨rfl, f, c', rfl, hf, hcl, fun σ0 => ?_⟩
  have h1 : ups S c' (.clo q es σ0) f = some (.nfn (mk c')) := by rw [ups_ne hfc]; exact hf
  have key := changed_law (K := K) (act := aActN f c' q σ0 (mk c') 1 2 N' js bd) (F := F) (x := x) (fv := .ref f) (S0 := ups S c' (.clo q es σ0)) (R := fun v S' => S' f = some (.nfn (mk c')) ∧ R v (backS S c' S')) hs (fun E es' S' R y d X hl h4 h5 h1' hn k => ?_) fun S' X => ?_
  · exact key
  · rw [x_actN]
    refine ⟨h1', X _ _ h1, ?_⟩
    rw [x_cons, x_var, h4]
    dsimp only
    rw [x_cons, x_var, h5]
    dsimp only
    rw [x_nil]
    exact ⟨rfl, X _ _ h1, es, X _ _ ups_same, hb S' R y d hl hn k⟩
  · exact ⟨X _ _ h1, ret _ (ext_back (F := mk c') (f := f) (.refl S) X)⟩
def sp_grown (K : PySem.W.Frag) : ASp := fun va S R _ => ∃ x : Ix, va = [x.val] ∧ x.size ≤ 2000 ∧ x.deep ≤ 200 ∧ ∀ S', Ext S S' → R x.val S'
theorem nodesI_deep : ∀ (x : Ix) (p : List Nat) (d : Nat) (n : Nd), n ∈ nodesI x p d → n.p.length + n.x.deep ≤ p.length + x.deep
  | .nm _, p, d, n, h => by rw [List.mem_singleton.mp h]; exact Nat.le_refl _
  | .v _, p, d, n, h => by rw [List.mem_singleton.mp h]; exact Nat.le_refl _
  | .a f x, p, d, n, h => by
    rcases List.mem_cons.mp h with h | h
    · rw [h]; exact Nat.le_refl _
    · rcases List.mem_append.mp h with h | h
      · have := nodesI_deep f _ _ n h
        simp only [List.length_append, List.length_cons, List.length_nil, Ix.deep] at this ⊢
        omega
      · have := nodesI_deep x _ _ n h
        simp only [List.length_append, List.length_cons, List.length_nil, Ix.deep] at this ⊢
        omega
  | .l b, p, d, n, h => by
    rcases List.mem_cons.mp h with h | h
    · rw [h]; exact Nat.le_refl _
    · have := nodesI_deep b _ _ n h
      simp only [List.length_append, List.length_cons, List.length_nil, Ix.deep] at this ⊢
      omega
theorem pf_grown {K : PySem.W.Frag} : ∀ va S R RE, sp_grown K va S R RE → rd_grown K (sp_parts_of K) (D0 R RE) (astart N_grown va) S := by
  rintro va S0 R RE ⟨x, rfl, hs, hd, ret⟩
  unfold rd_grown
  refine cut2 (fun es S => ∃ (q : Addr) (L : List Nd), es = [some x.val, some (.ref q), none, none, none] ∧ Ext S0 S ∧ S q = some (.lst (L.map entI)) ∧ L.Perm (nodesI x [] 0)) (fun N hN => ?_) ?_
  · simp! only []
    exact ⟨x, rfl, by omega, fun q S' L X q0 hq hp _ => hN _ _ ⟨q, L, rfl, X, hq, hp⟩⟩
  rintro _ S ⟨q, L, rfl, X, hq, hp⟩
  have hll : L.length = x.size := by rw [hp.length_eq, nodesI_len]
  have hne : 0 < L.length := by rw [hll]; exact x.size_pos
  refine cut2 (fun es S' => es = [some x.val, some (.ref q), none, none, none] ∧ Ext S0 S') (fun N hN => ?_) ?_
  · simp! only [hq, List.length_map]
    refine ifD (fun z => absurd z (by omega)) fun _ => ?_
    refine lc_map (fun v => match v with | .tup [.tup p, _, _] => .int (p.length : Int) | v => v) fun M hM => ?_
    simp! only [hq]
    refine hM _ _ (by simp only [List.length_map, sizeLine]; omega) (fun S1 e => .inl (e _ _ hq)) (fun i v S1 hv e Y hY => ?_) fun p S1 hp0 e h1 => ?_
    · have hv' : (L.map entI)[i]? = some v := hv
      rw [List.getElem?_map] at hv'
      obtain ⟨n, hn, rfl⟩ := Option.map_eq_some_iff.mp hv'
      refine tup3 (v1 := pathV n.p) (v2 := n.x.val) (v3 := .int (n.d : Int)) ?_
      simp! only []
      have := hY S1 (.refl _)
      simpa [entI, pathV] using this
    · have h2 : S1 p = some (.lst ((L.map fun n => (n.p.length : Int)).map .int)) := by
        rw [h1, List.map_map, List.map_map]
        refine congrArg some (congrArg Cell.lst (List.map_congr_left fun n _ => ?_))
        simp [entI, pathV]
      simp only [maxC]
      refine ⟨_, .inl h2, by simpa using hne, fun m hm _ => ?_⟩
      obtain ⟨n, hn, rfl⟩ := List.mem_map.mp hm
      have := nodesI_deep x [] 0 n (hp.mem_iff.mp hn)
      have := n.x.deep_pos
      simp! only []
      refine ifD (fun z => absurd z (by simp at *; omega)) fun _ => ?_
      exact hN _ _ ⟨rfl, X.trans e⟩
  rintro _ S' ⟨rfl, X'⟩
  simp! only []
  exact ret S' X'
end G

set_option Elab.async false
set_option linter.all false
set_option maxRecDepth 100000
set_option maxHeartbeats 1000000
set_option exponentiation.threshold 1000
namespace G
open PySem A3
/-! ### the store within a lambda -/
/-- all but what is told of code stays -/
def XC (S S' : Store) : Prop := ∀ a c, S a = some c → c.isClo = false → S' a = some c
theorem XC.of {S S' : Store} (h : Ext S S') : XC S S' := fun a c e _ => h a c e
theorem XC.trans {S S1 S2 : Store} (h : XC S S1) (k : XC S1 S2) : XC S S2 := fun a c e z => k a c (h a c e z) z
theorem XC.ext {S S1 S2 : Store} (h : XC S S1) (k : Ext S1 S2) : XC S S2 := fun a c e z => k a c (h a c e z)
theorem XC.clo {S : Store} {c' : Addr} {q : Str} {es : AEnv} {s : L2.St} (hc : ∀ d, S c' = some d → ∃ q e s, d = .clo q e s) : XC S (ups S c' (.clo q es s)) := fun a d e z => by
  have n : a ≠ c' := fun h => by
    subst h
    obtain ⟨_, _, _, rfl⟩ := hc d e
    cases z
  rw [ups_ne n]
  exact e
theorem tyOk_xc {S S' : Store} {x : Val} (h : tyOk x S) (X : XC S S') : tyOk x S' := by
  cases x with
  | ref p =>
    unfold tyOk at h ⊢
    simp only [tyV?] at h ⊢
    cases q : S p with
    | none => rw [q] at h; cases h
    | some c =>
      rw [q] at h
      have : c.isClo = false := by cases c <;> first | rfl | cases h
      rw [X _ _ q this]
      exact h
  | _ => rfl
theorem AnyV.xc {S S' : Store} {x : Val} (h : AnyV S x) (X : XC S S') : AnyV S' x := by
  induction h with
  | non => exact .non
  | bl b => exact .bl b
  | int i => exact .int i
  | str h => exact .str h
  | tup _ ih => exact .tup ih
  | ref h => exact .ref (tyOk_xc h X)
theorem Hand.xc {S S' : Store} {h p : Addr} (H : Hand S h p) (X : XC S S') : Hand S' h p := by
  obtain ⟨ns, i, j, k, l, a, b, c⟩ := H.ex
  exact ⟨ns, i, j, k, l, X _ _ a rfl, X _ _ b rfl, c⟩
/-- all cells but the hand's own stay: what may be given stays -/
theorem AnyV.dx {S S' : Store} {h : Addr} {x : Val} (k : AnyV S x) (n : ∀ a c, a ≠ h → S a = some c → S' a = some c) (hh : tyOk (.ref h) S') : AnyV S' x := by
  induction k with
  | non => exact .non
  | bl b => exact .bl b
  | int i => exact .int i
  | str h => exact .str h
  | tup _ ih => exact .tup ih
  | @ref q hq =>
    by_cases e : q = h
    · subst e; exact .ref hh
    · refine .ref ?_
      unfold tyOk at hq ⊢
      simp only [tyV?] at hq ⊢
      cases z : S q with
      | none => rw [z] at hq; cases hq
      | some c => rw [n q c e z]; rw [z] at hq; exact hq
end G

set_option Elab.async false
set_option linter.all false
set_option maxRecDepth 100000
set_option maxHeartbeats 1000000
set_option exponentiation.threshold 1000
namespace G
open PySem A3
/-! ### what is given put into what binds -/
def mvF (m : Nat) : Nat → Ix → Ix := fun d y => match y with
  | .v n => if d ≤ n then .v (n + m) else .v n
  | y => y
def Ix.mv (x : Ix) (m : Nat) : Ix := x.chg (mvF m) 0
def sp_moved (K : PySem.W.Frag) : ASp := fun va S R _ => ∃ (x : Ix) (m : Nat), va = [x.val, .int (m : Int)] ∧ x.size ≤ 4000 ∧ ∀ S', Ext S S' → R (x.mv m).val S'
theorem pf_moved {K : PySem.W.Frag} (mk : Addr → NdefX.NF) : ∀ va S R RE, sp_moved K va S R RE → rd_moved K (sp_parts_of K) (sp_is_integer K) mk (D0 R RE) (astart N_moved va) S := by
  rintro va S R RE ⟨x, m, rfl, hs, ret⟩
  unfold rd_moved
  rw [x_seq]
  intro f c' hf hfc hcl
  dsimp only
  rw [x_ret]
  have hcl2 : ∀ c, ups S f (.nfn (mk c')) c' = some c → ∃ q e s, c = .clo q e s := fun c e => hcl c (by rw [ups_ne (Ne.symm hfc)] at e; exact e)
  refine changed_call (F := mvF m) (f := f) (c' := c') hs rfl rfl ups_same hfc hcl2 (fun S' R y d hl _ k => ?_) fun S' X => ret S' ((Ext.new hf).trans X)
  cases y with
  | nm z =>
    have i9 : isInt (.str z) = false := rfl
    simp! only [astartF, slotA, Ix.val]
    refine ⟨_, rfl, rfl, ?_⟩
    simp! only [i9]
    exact k _ (.refl _)
  | v n =>
    have i9 : isInt (.int (n : Int)) = true := rfl
    simp! only [astartF, slotA, Ix.val]
    refine ⟨_, rfl, rfl, ?_⟩
    simp! only [i9]
    have e : mvF m d (.v n) = if d ≤ n then .v (n + m) else .v n := rfl
    rw [e] at k
    refine ifD (fun h => ?_) fun h => ?_
    · rw [if_pos (by omega)] at k
      exact k _ (.refl _)
    · rw [if_neg (by omega)] at k
      exact k _ (.refl _)
  | a g h => cases hl
  | l b => cases hl
def opF (o : Ix) : Nat → Ix → Ix := fun d y => match y with
  | .v n => if n < d then .v n else if n = d then o.mv d else .v (n - 1)
  | y => y
def Ix.opn (b o : Ix) : Ix := b.chg (opF o) 0
def sp_opened (K : PySem.W.Frag) : ASp := fun va S R _ => ∃ b o : Ix, va = [b.val, o.val] ∧ b.size ≤ 4000 ∧ o.size ≤ 4000 ∧ ∀ S', Ext S S' → R (b.opn o).val S'
theorem pf_opened {K : PySem.W.Frag} (mk : Addr → NdefX.NF) : ∀ va S R RE, sp_opened K va S R RE → rd_opened K (sp_parts_of K) (sp_is_integer K) (sp_moved K) mk (D0 R RE) (astart N_opened va) S := by
  rintro va S R RE ⟨x, o, rfl, hs, hso, ret⟩
  unfold rd_opened
  rw [x_seq]
  intro f c' hf hfc hcl
  dsimp only
  rw [x_ret]
  have hcl2 : ∀ c, ups S f (.nfn (mk c')) c' = some c → ∃ q e s, c = .clo q e s := fun c e => hcl c (by rw [ups_ne (Ne.symm hfc)] at e; exact e)
  refine changed_call (F := opF o) (f := f) (c' := c') hs rfl rfl ups_same hfc hcl2 (fun S' R y d hl _ k => ?_) fun S' X => ret S' ((Ext.new hf).trans X)
  cases y with
  | nm z =>
    have i9 : isInt (.str z) = false := rfl
    simp! only [astartF, slotA, Ix.val]
    refine ⟨_, rfl, rfl, ?_⟩
    simp! only [i9]
    exact k _ (.refl _)
  | v n =>
    have i9 : isInt (.int (n : Int)) = true := rfl
    have e : opF o d (.v n) = if n < d then .v n else if n = d then o.mv d else .v (n - 1) := rfl
    rw [e] at k
    simp! only [astartF, slotA, Ix.val]
    refine ⟨_, rfl, rfl, ?_⟩
    simp! only [i9]
    refine ifD (fun h => ?_) fun h => ?_
    · rw [if_pos (by omega)] at k
      exact k _ (.refl _)
    · rw [if_neg (by omega)] at k
      refine ifD (fun h2 => ?_) fun h2 => ?_
      · rw [if_pos (by omega)] at k
        exact ⟨o, d, rfl, hso, fun S2 X2 => k S2 X2⟩
      · rw [if_neg (by omega)] at k
        have e2 : (n : Int) - 1 = ((n - 1 : Nat) : Int) := by omega
        rw [e2]
        exact k _ (.refl _)
  | a g h => cases hl
  | l b => cases hl
/-- the part at a path -/
def Ix.sb : Ix → List Nat → Option Ix
  | x, [] => some x
  | .a f _, 0 :: r => f.sb r
  | .a _ x, 1 :: r => x.sb r
  | .l b, 0 :: r => b.sb r
  | _, _ :: _ => none
theorem Ix.sb_nil (x : Ix) : x.sb [] = some x := by cases x <;> rfl
theorem Ix.sb_cons {x y : Ix} {k : Nat} {r : List Nat} (h : x.sb (k :: r) = some y) : (∃ f z, x = .a f z ∧ ((k = 0 ∧ f.sb r = some y) ∨ (k = 1 ∧ z.sb r = some y))) ∨ ∃ b, x = .l b ∧ k = 0 ∧ b.sb r = some y := by
  cases x with
  | nm s => simp [Ix.sb] at h
  | v n => simp [Ix.sb] at h
  | a f z =>
    match k, h with
    | 0, h => exact .inl ⟨f, z, rfl, .inl ⟨rfl, h⟩⟩
    | 1, h => exact .inl ⟨f, z, rfl, .inr ⟨rfl, h⟩⟩
    | k + 2, h => simp [Ix.sb] at h
  | l b =>
    match k, h with
    | 0, h => exact .inr ⟨b, rfl, rfl, h⟩
    | k + 1, h => simp [Ix.sb] at h
def sp_at_path (K : PySem.W.Frag) : ASp := fun va S R _ => ∃ (x y : Ix) (p : List Nat), va = [x.val, pathV p] ∧ x.sb p = some y ∧ R y.val S
theorem pf_at_path {K : PySem.W.Frag} : ∀ va S R RE, sp_at_path K va S R RE → rd_at_path K (D0 R RE) (astart N_at_path va) S := by
  rintro va S0 R RE ⟨x, y, p, rfl, hy, ret⟩
  unfold rd_at_path
  simp! only []
  refine for_rest fun N hN => ?_
  dsimp! only []
  refine hN _ _ ⟨fun rest es S => ∃ (w : Ix) (o2 : Option Val) (q : List Nat), es = [some w.val, some (pathV p), o2] ∧ S0 = S ∧ rest = q.map (fun n : Nat => Val.int (n : Int)) ∧ w.sb q = some y, ⟨x, none, p, rfl, rfl, rfl, hy⟩, fun _ _ _ _ => trivial, ?_, ?_⟩
  · rintro z rest _ S ⟨w, o2, q, rfl, rfl, eq, ha⟩
    cases q with
    | nil => cases eq
    | cons k q =>
      simp only [List.map_cons, List.cons.injEq] at eq
      obtain ⟨rfl, rfl⟩ := eq
      rcases Ix.sb_cons ha with ⟨f, z, rfl, ⟨rfl, h⟩ | ⟨rfl, h⟩⟩ | ⟨b, rfl, rfl, h⟩
      · have e1 : L2.atI [Val.str "of", f.val, z.val] 1 = some f.val := rfl
        simp! only [Ix.val]
        have e0 : (1 : Int) + ((0 : Nat) : Int) = 1 := rfl
        rw [e0]
        simp! only [e1]
        exact ⟨f, _, q, rfl, trivial, rfl, h⟩
      · have e1 : L2.atI [Val.str "of", f.val, z.val] 2 = some z.val := rfl
        simp! only [Ix.val]
        have e0 : (1 : Int) + ((1 : Nat) : Int) = 2 := rfl
        rw [e0]
        simp! only [e1]
        exact ⟨z, _, q, rfl, trivial, rfl, h⟩
      · have e1 : L2.atI [Val.str "with", b.val] 1 = some b.val := rfl
        simp! only [Ix.val]
        have e0 : (1 : Int) + ((0 : Nat) : Int) = 1 := rfl
        rw [e0]
        simp! only [e1]
        exact ⟨b, _, q, rfl, trivial, rfl, h⟩
  · rintro _ S ⟨w, o2, q, rfl, rfl, eq, ha⟩
    cases q with
    | nil =>
      rw [Ix.sb_nil] at ha
      cases ha
      simp! only []
      exact ret
    | cons k q => cases eq
/-- another part put at a path -/
def Ix.put : Ix → List Nat → Ix → Ix
  | _, [], o => o
  | .a f x, 0 :: r, o => .a (f.put r o) x
  | .a f x, 1 :: r, o => .a f (x.put r o)
  | .l b, 0 :: r, o => .l (b.put r o)
  | _, _ :: _, o => o
theorem Ix.put_nil (x o : Ix) : x.put [] o = o := by cases x <;> rfl
def sideV (e : Nat × Ix) : Val := .tup [.int (e.1 : Int), e.2.val]
/-- the ways down -/
def Ix.sides : Ix → List Nat → List (Nat × Ix)
  | _, [] => []
  | .a f x, 0 :: r => (0, .a f x) :: f.sides r
  | .a f x, 1 :: r => (1, .a f x) :: x.sides r
  | .l b, 0 :: r => (0, .l b) :: b.sides r
  | _, _ :: _ => []
/-- what a side makes of what is found -/
def onSide (e : Nat × Ix) (o : Ix) : Ix := match e with
  | (0, .a _ x) => .a o x
  | (1, .a f _) => .a f o
  | (0, .l _) => .l o
  | (_, x) => x
theorem sides_put : ∀ (x : Ix) (p : List Nat) (o : Ix), (x.sides p).foldr onSide o = x.put p o
  | x, [], o => by cases x <;> rfl
  | .a f x, 0 :: r, o => by simp only [Ix.sides, List.foldr_cons, sides_put f r o, Ix.put]; rfl
  | .a f x, 1 :: r, o => by simp only [Ix.sides, List.foldr_cons, sides_put x r o, Ix.put]; rfl
  | .l b, 0 :: r, o => by simp only [Ix.sides, List.foldr_cons, sides_put b r o, Ix.put]; rfl
  | .nm _, _ :: _, _ => by simp [Ix.sides, Ix.put]
  | .v _, _ :: _, _ => by simp [Ix.sides, Ix.put]
  | .a _ _, (_ + 2) :: _, _ => rfl
  | .l _, (_ + 1) :: _, _ => by simp [Ix.sides, Ix.put]
def sideOk (e : Nat × Ix) : Prop := (∃ f x, e = (0, .a f x)) ∨ (∃ f x, e = (1, .a f x)) ∨ ∃ b, e = (0, .l b)
def sp_with_at (K : PySem.W.Frag) : ASp := fun va S R _ => ∃ (x y o : Ix) (p : List Nat), va = [x.val, pathV p, o.val] ∧ x.sb p = some y ∧ p.length ≤ 4000 ∧ ∀ S', Ext S S' → R (x.put p o).val S'
theorem pf_with_at {K : PySem.W.Frag} : ∀ va S R RE, sp_with_at K va S R RE → rd_with_at K (D0 R RE) (astart N_with_at va) S := by
  rintro va S0 R RE ⟨x, y, o, p, rfl, hy, hp, ret⟩
  unfold rd_with_at
  refine cut2 (fun es S => ∃ q, es = [some x.val, some (pathV p), some o.val, some (.ref q), none, none, none] ∧ S0 q = none ∧ Ext S0 S ∧ S q = some (.lst [])) (fun N hN => ?_) ?_
  · simp! only []
    exact ⟨by decide, fun q hq => hN _ _ ⟨q, rfl, hq, .new hq, ups_same⟩⟩
  rintro _ S ⟨q, rfl, q0, X, hq⟩
  refine cut2 (fun es S => ∃ (w : Ix) (o4 : Option Val), es = [some w.val, some (pathV p), some o.val, some (.ref q), o4, none, none] ∧ Ext S0 S ∧ S q = some (.lst ((x.sides p).map sideV)) ∧ (x.sides p).length ≤ 4000 ∧ ∀ e, e ∈ x.sides p → sideOk e) (fun N hN => ?_) ?_
  · refine for_rest fun N2 hN2 => ?_
    dsimp! only []
    refine hN2 _ _ ⟨fun rest es S => ∃ (w : Ix) (o4 : Option Val) (dn : List (Nat × Ix)) (r : List Nat), es = [some w.val, some (pathV p), some o.val, some (.ref q), o4, none, none] ∧ Ext S0 S ∧ rest = r.map (fun n : Nat => Val.int (n : Int)) ∧ w.sb r = some y ∧ S q = some (.lst (dn.map sideV)) ∧ dn ++ w.sides r = x.sides p ∧ dn.length + r.length = p.length ∧ ∀ e, e ∈ dn → sideOk e,
      ⟨x, none, [], p, rfl, X, rfl, hy, hq, rfl, by simp, fun e h => by cases h⟩, fun _ _ _ _ => trivial, ?_, ?_⟩
    · clear X hq
      rintro z rest _ S ⟨w, o4, dn, r, rfl, X, eq, ha, hq, hd, hl, hok⟩
      cases r with
      | nil => cases eq
      | cons k r =>
        simp only [List.map_cons, List.cons.injEq] at eq
        obtain ⟨rfl, rfl⟩ := eq
        simp only [List.length_cons] at hl
        have dl : (dn.map sideV).length < sizeLine := by rw [List.length_map]; simp only [sizeLine]; omega
        have step : ∀ (u : Ix) (e : Nat × Ix), e = (k, w) → sideOk e → w.sides (k :: r) = e :: u.sides r → u.sb r = some y → ∃ (w' : Ix) (o4 : Option Val) (dn' : List (Nat × Ix)) (r' : List Nat), [some u.val, some (pathV p), some o.val, some (.ref q), some (.int (k : Int)), none, none] = [some w'.val, some (pathV p), some o.val, some (.ref q), o4, none, none] ∧ Ext S0 (ups S q (.lst (dn.map sideV ++ [sideV e]))) ∧ r.map (fun n : Nat => Val.int (n : Int)) = r'.map (fun n : Nat => Val.int (n : Int)) ∧ w'.sb r' = some y ∧ some (Cell.lst (dn.map sideV ++ [sideV e])) = some (Cell.lst (dn'.map sideV)) ∧ dn' ++ w'.sides r' = x.sides p ∧ dn'.length + r'.length = p.length ∧ ∀ e, e ∈ dn' → sideOk e := fun u e he ho hsd hu =>
          ⟨u, _, dn ++ [e], r, rfl, X.put q0, rfl, hu, by rw [List.map_append]; rfl, by rw [← hd, hsd]; simp, by simp; omega, fun e' h' => by
            rcases List.mem_append.mp h' with h' | h'
            · exact hok e' h'
            · rw [List.mem_singleton.mp h']; exact ho⟩
        rcases Ix.sb_cons ha with ⟨f, z, rfl, ⟨rfl, h⟩ | ⟨rfl, h⟩⟩ | ⟨b, rfl, rfl, h⟩
        · have e1 : L2.atI [Val.str "of", f.val, z.val] 1 = some f.val := rfl
          have e0 : (1 : Int) + ((0 : Nat) : Int) = 1 := rfl
          simp! only [hq, Ix.val, e0, e1]
          exact ⟨by decide, by decide, dl, step f (0, .a f z) rfl (.inl ⟨f, z, rfl⟩) rfl h⟩
        · have e1 : L2.atI [Val.str "of", f.val, z.val] 2 = some z.val := rfl
          have e0 : (1 : Int) + ((1 : Nat) : Int) = 2 := rfl
          simp! only [hq, Ix.val, e0, e1]
          exact ⟨by decide, by decide, dl, step z (1, .a f z) rfl (.inr (.inl ⟨f, z, rfl⟩)) rfl h⟩
        · have e1 : L2.atI [Val.str "with", b.val] 1 = some b.val := rfl
          have e0 : (1 : Int) + ((0 : Nat) : Int) = 1 := rfl
          simp! only [hq, Ix.val, e0, e1]
          exact ⟨by decide, by decide, dl, step b (0, .l b) rfl (.inr (.inr ⟨b, rfl⟩)) rfl h⟩
    · rintro _ S ⟨w, o4, dn, r, rfl, X, eq, ha, hq, hd, hl, hok⟩
      cases r with
      | nil =>
        have e : w.sides [] = [] := by cases w <;> rfl
        rw [e, List.append_nil] at hd
        subst hd
        exact hN _ _ ⟨w, o4, rfl, X, hq, by simp at hl; omega, hok⟩
      | cons k r => cases eq
  clear X hq
  rintro _ S ⟨w, o4, rfl, X, hq, hl, hok⟩
  refine cut2 (fun es S1 => es = [some w.val, some (pathV p), some o.val, some (.ref q), o4, some o.val, none] ∧ S = S1) (fun N hN => ?_) ?_
  · simp! only []
    exact hN _ _ ⟨rfl, rfl⟩
  rintro _ _ ⟨rfl, rfl⟩
  refine cut2 (fun es S => ∃ (o4 o6 : Option Val), es = [some w.val, some (pathV p), some o.val, some (.ref q), o4, some (x.put p o).val, o6] ∧ Ext S0 S) (fun N hN => ?_) ?_
  · refine for_rest fun N2 hN2 => ?_
    dsimp! only [hq]
    intro r hr
    have e0 : ((x.sides p).map sideV).reverse = (x.sides p).reverse.map sideV := by rw [List.map_reverse]
    rw [e0]
    refine hN2 _ _ ⟨fun rest es S => ∃ (todo dn : List (Nat × Ix)) (o4 o6 : Option Val), es = [some w.val, some (pathV p), some o.val, some (.ref q), o4, some (dn.foldr onSide o).val, o6] ∧ Ext S0 S ∧ S r = some (.lst ((x.sides p).reverse.map sideV)) ∧ rest = todo.reverse.map sideV ∧ todo ++ dn = x.sides p,
      ⟨x.sides p, [], o4, none, rfl, X.trans (.new hr), ups_same, rfl, by simp⟩, ?_, ?_, ?_⟩
    · rintro l es S ⟨_, _, _, _, _, _, h, _⟩
      exact .inl h
    · clear X hq hr
      rintro z rest _ S ⟨todo, dn, o4, o6, rfl, X, hr, eq, hd⟩
      rcases List.eq_nil_or_concat todo with h | ⟨td, e, h⟩
      · subst h; simp at eq
      · subst h
        rw [List.concat_eq_append] at *
        simp only [List.reverse_append, List.reverse_cons, List.reverse_nil, List.nil_append, List.cons_append, List.map_cons, List.cons.injEq] at eq
        obtain ⟨rfl, rfl⟩ := eq
        have ho := hok e (by rw [← hd]; simp)
        obtain ⟨k, u⟩ := e
        refine tup2 (v1 := .int (k : Int)) (v2 := u.val) ?_
        simp only [List.set_cons_zero, List.set_cons_succ]
        refine hide fun N hN => ?_
        have fin : ∀ v : Ix, v = onSide (k, u) (dn.foldr onSide o) → N [some w.val, some (pathV p), some o.val, some (.ref q), some (.int (k : Int)), some v.val, some u.val] S := fun v hv => by
          subst hv
          exact hN _ _ ⟨td, (k, u) :: dn, _, _, rfl, X, hr, rfl, by rw [← hd]; simp⟩
        generalize dn.foldr onSide o = g at fin ⊢
        rcases ho with ⟨f, x', he⟩ | ⟨f, x', he⟩ | ⟨b, he⟩
        · cases he
          have c1 : cutA [.str "of", f.val, x'.val] none (some (1 + ((0 : Nat) : Int))) = [.str "of"] := rfl
          have c2 : cutA [.str "of", f.val, x'.val] (some (2 + ((0 : Nat) : Int))) none = [x'.val] := rfl
          simp! only [Ix.val, c1, c2]
          exact ⟨by decide, by decide, by decide, fin (.a g x') rfl⟩
        · cases he
          have c1 : cutA [.str "of", f.val, x'.val] none (some (1 + ((1 : Nat) : Int))) = [.str "of", f.val] := rfl
          have c2 : cutA [.str "of", f.val, x'.val] (some (2 + ((1 : Nat) : Int))) none = [] := rfl
          simp! only [Ix.val, c1, c2]
          exact ⟨by decide, by decide, by decide, fin (.a f g) rfl⟩
        · cases he
          have c1 : cutA [.str "with", b.val] none (some (1 + ((0 : Nat) : Int))) = [.str "with"] := rfl
          have c2 : cutA [.str "with", b.val] (some (2 + ((0 : Nat) : Int))) none = [] := rfl
          simp! only [Ix.val, c1, c2]
          exact ⟨by decide, by decide, by decide, fin (.l g) rfl⟩
    · rintro _ S ⟨todo, dn, o4, o6, rfl, X, _, eq, hd⟩
      have : todo = [] := by simpa using eq.symm
      subst this
      rw [List.nil_append] at hd
      subst hd
      rw [sides_put]
      exact hN _ _ ⟨_, _, rfl, X⟩
  rintro _ S ⟨o4, o6, rfl, X⟩
  simp! only []
  exact ret S X
end G

set_option Elab.async false
set_option linter.all false
set_option maxRecDepth 100000
set_option maxHeartbeats 1000000
set_option exponentiation.threshold 1000
namespace G
open PySem A3
def pI (p : List Nat) : List Int := p.map fun k : Nat => (k : Int)
noncomputable def srtP (ps : List (List Nat)) : List (List Nat) := (srtI (ps.map pI)).map fun z => z.map Int.toNat
theorem pI_back (p : List Nat) : (pI p).map Int.toNat = p := by
  unfold pI
  rw [List.map_map]
  conv => rhs; rw [← List.map_id p]
  exact List.map_congr_left fun k _ => Int.toNat_natCast k
theorem srtP_perm (ps : List (List Nat)) : (srtP ps).Perm ps := by
  unfold srtP
  refine ((srtI_perm (ps.map pI)).map _).trans ?_
  rw [List.map_map]
  have e : ((fun z : List Int => z.map Int.toNat) ∘ pI) = id := by
    funext p
    exact pI_back p
  rw [e, List.map_id]
def stepsN (x : Ix) : List (List Nat) := ((nodesI x [] 0).filter fun n => n.x.redex).map fun n => n.p
/-- the paths at which steps can be done -/
noncomputable def Ix.stps (x : Ix) : List (List Nat) := srtP (stepsN x)
theorem atN_sb : ∀ (x : Ix) (d : Nat) (p : List Nat) (y : Ix) (e : Nat), x.atN d p = some (y, e) → x.sb p = some y
  | x, d, [], y, e, h => by rw [Ix.atN_nil] at h; cases h; exact Ix.sb_nil _
  | .a f z, d, 0 :: r, y, e, h => atN_sb f d r y e h
  | .a f z, d, 1 :: r, y, e, h => atN_sb z d r y e h
  | .l b, d, 0 :: r, y, e, h => atN_sb b (d + 1) r y e h
  | .nm _, _, _ :: _, _, _, h => by simp [Ix.atN] at h
  | .v _, _, _ :: _, _, _, h => by simp [Ix.atN] at h
  | .a _ _, _, (_ + 2) :: _, _, _, h => by simp [Ix.atN] at h
  | .l _, _, (_ + 1) :: _, _, _, h => by simp [Ix.atN] at h
theorem sb_node : ∀ (x : Ix) (q p : List Nat) (d : Nat) (y : Ix), x.sb p = some y → ∃ e, (⟨q ++ p, y, e⟩ : Nd) ∈ nodesI x q d
  | x, q, [], d, y, h => by
    rw [Ix.sb_nil] at h
    cases h
    exact ⟨d, by rw [List.append_nil]; exact nodesI_root x q d⟩
  | .a f z, q, 0 :: r, d, y, h => by
    obtain ⟨e, he⟩ := sb_node f (q ++ [0]) r d y h
    rw [List.append_assoc] at he
    exact ⟨e, by simp only [nodesI]; exact List.mem_cons_of_mem _ (List.mem_append_left _ he)⟩
  | .a f z, q, 1 :: r, d, y, h => by
    obtain ⟨e, he⟩ := sb_node z (q ++ [1]) r d y h
    rw [List.append_assoc] at he
    exact ⟨e, by simp only [nodesI]; exact List.mem_cons_of_mem _ (List.mem_append_right _ he)⟩
  | .l b, q, 0 :: r, d, y, h => by
    obtain ⟨e, he⟩ := sb_node b (q ++ [0]) r (d + 1) y h
    rw [List.append_assoc] at he
    exact ⟨e, by simp only [nodesI]; exact List.mem_cons_of_mem _ he⟩
  | .nm _, _, _ :: _, _, _, h => by simp [Ix.sb] at h
  | .v _, _, _ :: _, _, _, h => by simp [Ix.sb] at h
  | .a _ _, _, (_ + 2) :: _, _, _, h => by simp [Ix.sb] at h
  | .l _, _, (_ + 1) :: _, _, _, h => by simp [Ix.sb] at h
theorem stps_mem {x : Ix} {p : List Nat} : p ∈ x.stps ↔ ∃ b o, x.sb p = some (.a (.l b) o) := by
  unfold Ix.stps
  rw [(srtP_perm _).mem_iff]
  unfold stepsN
  simp only [List.mem_map, List.mem_filter]
  constructor
  · rintro ⟨n, ⟨h1, h2⟩, rfl⟩
    obtain ⟨r, e1, e2⟩ := nodesI_at x [] 0 n h1
    rw [List.nil_append] at e1
    have := atN_sb _ _ _ _ _ e2
    rw [e1]
    obtain ⟨p, y, d⟩ := n
    dsimp only at h2 this ⊢
    cases y with
    | a f z =>
      cases f with
      | l b => exact ⟨b, z, this⟩
      | _ => cases h2
    | _ => cases h2
  · rintro ⟨b, o, h⟩
    obtain ⟨e, he⟩ := sb_node x [] p 0 _ h
    exact ⟨_, ⟨he, rfl⟩, List.nil_append _⟩
theorem mv_deep (m : Nat) : ∀ (x : Ix) (c : Nat), (x.chg (mvF m) c).deep = x.deep
  | .nm s, c => rfl
  | .v n, c => by simp only [Ix.chg, mvF]; split <;> rfl
  | .a f x, c => by simp only [Ix.chg, Ix.deep, mv_deep m f, mv_deep m x]
  | .l b, c => by simp only [Ix.chg, Ix.deep, mv_deep m b]
theorem mv_nms (m : Nat) : ∀ (x : Ix) (c : Nat), (x.chg (mvF m) c).nms = x.nms
  | .nm s, c => rfl
  | .v n, c => by simp only [Ix.chg, mvF]; split <;> rfl
  | .a f x, c => by simp only [Ix.chg, Ix.nms, mv_nms m f, mv_nms m x]
  | .l b, c => by simp only [Ix.chg, Ix.nms, mv_nms m b]
theorem mv_low (m : Nat) : ∀ (x : Ix) (c d : Nat), x.low (d + c) → (x.chg (mvF m) c).low (d + c + m)
  | .nm s, c, d, h => trivial
  | .v n, c, d, h => by
    simp only [Ix.chg, mvF]
    have h : n < d + c := h
    split
    · show n + m < _; omega
    · show n < _; omega
  | .a f x, c, d, h => ⟨mv_low m f c d h.1, mv_low m x c d h.2⟩
  | .l b, c, d, h => by
    have := mv_low m b (c + 1) d h
    show (b.chg (mvF m) (c + 1)).low _
    rw [show d + c + m + 1 = d + (c + 1) + m by omega]
    exact this
theorem opn_deep (o : Ix) : ∀ (b : Ix) (e : Nat), (b.chg (opF o) e).deep ≤ b.deep + o.deep
  | .nm s, e => by simp only [Ix.chg, opF]; omega
  | .v n, e => by
    simp only [Ix.chg, opF]
    split
    · omega
    · split
      · rw [Ix.mv, mv_deep]; omega
      · simp only [Ix.deep]; omega
  | .a f x, e => by
    have h1 := opn_deep o f e
    have h2 := opn_deep o x e
    simp only [Ix.chg, Ix.deep] at *
    omega
  | .l b, e => by
    have h1 := opn_deep o b (e + 1)
    simp only [Ix.chg, Ix.deep] at *
    omega
theorem opn_nms (o : Ix) : ∀ (b : Ix) (e : Nat) (k : Str), k ∈ (b.chg (opF o) e).nms → k ∈ b.nms ∨ k ∈ o.nms
  | .nm s, e, k, h => .inl h
  | .v n, e, k, h => by
    simp only [Ix.chg, opF] at h
    split at h
    · exact .inl h
    · split at h
      · rw [Ix.mv, mv_nms] at h; exact .inr h
      · exact absurd h (List.not_mem_nil)
  | .a f x, e, k, h => by
    simp only [Ix.chg, Ix.nms, List.mem_append] at *
    rcases h with h | h
    · rcases opn_nms o f e k h with h | h <;> simp [h]
    · rcases opn_nms o x e k h with h | h <;> simp [h]
  | .l b, e, k, h => opn_nms o b (e + 1) k h
theorem opn_low (o : Ix) (d : Nat) (ho : o.low d) : ∀ (b : Ix) (e : Nat), b.low (d + 1 + e) → (b.chg (opF o) e).low (d + e)
  | .nm s, e, h => trivial
  | .v n, e, h => by
    simp only [Ix.chg, opF]
    have h : n < d + 1 + e := h
    split
    · show n < _; omega
    · split
      · exact mv_low e o 0 d ho
      · show n - 1 < _; omega
  | .a f x, e, h => ⟨opn_low o d ho f e h.1, opn_low o d ho x e h.2⟩
  | .l b, e, h => opn_low o d ho b (e + 1) h
theorem put_low' : ∀ (x : Ix) (p : List Nat) (d : Nat) (y z : Ix), x.low d → (∀ e, y.low e → z.low e) → x.sb p = some y → (x.put p z).low d
  | x, [], d, y, z, h, k, e => by rw [Ix.sb_nil] at e; cases e; rw [Ix.put_nil]; exact k _ h
  | .a f w, 0 :: r, d, y, z, h, k, e => ⟨put_low' f r d y z h.1 k e, h.2⟩
  | .a f w, 1 :: r, d, y, z, h, k, e => ⟨h.1, put_low' w r d y z h.2 k e⟩
  | .l b, 0 :: r, d, y, z, h, k, e => put_low' b r (d + 1) y z h k e
  | .nm _, _ :: _, _, _, _, _, _, e => by simp [Ix.sb] at e
  | .v _, _ :: _, _, _, _, _, _, e => by simp [Ix.sb] at e
  | .a _ _, (_ + 2) :: _, _, _, _, _, _, e => by simp [Ix.sb] at e
  | .l _, (_ + 1) :: _, _, _, _, _, _, e => by simp [Ix.sb] at e
theorem put_size' : ∀ (x : Ix) (p : List Nat) (y z : Ix), x.sb p = some y → (x.put p z).size + y.size = x.size + z.size
  | x, [], y, z, e => by rw [Ix.sb_nil] at e; cases e; rw [Ix.put_nil]; omega
  | .a f w, 0 :: r, y, z, e => by have := put_size' f r y z e; simp only [Ix.put, Ix.size]; omega
  | .a f w, 1 :: r, y, z, e => by have := put_size' w r y z e; simp only [Ix.put, Ix.size]; omega
  | .l b, 0 :: r, y, z, e => by have := put_size' b r y z e; simp only [Ix.put, Ix.size]; omega
  | .nm _, _ :: _, _, _, e => by simp [Ix.sb] at e
  | .v _, _ :: _, _, _, e => by simp [Ix.sb] at e
  | .a _ _, (_ + 2) :: _, _, _, e => by simp [Ix.sb] at e
  | .l _, (_ + 1) :: _, _, _, e => by simp [Ix.sb] at e
theorem sb_deep : ∀ (x : Ix) (p : List Nat) (y : Ix), x.sb p = some y → p.length + y.deep ≤ x.deep
  | x, [], y, e => by rw [Ix.sb_nil] at e; cases e; simp
  | .a f w, 0 :: r, y, e => by have := sb_deep f r y e; simp only [Ix.deep, List.length_cons]; omega
  | .a f w, 1 :: r, y, e => by have := sb_deep w r y e; simp only [Ix.deep, List.length_cons]; omega
  | .l b, 0 :: r, y, e => by have := sb_deep b r y e; simp only [Ix.deep, List.length_cons]; omega
  | .nm _, _ :: _, _, e => by simp [Ix.sb] at e
  | .v _, _ :: _, _, e => by simp [Ix.sb] at e
  | .a _ _, (_ + 2) :: _, _, e => by simp [Ix.sb] at e
  | .l _, (_ + 1) :: _, _, e => by simp [Ix.sb] at e
theorem put_deep' : ∀ (x : Ix) (p : List Nat) (y z : Ix), x.sb p = some y → (x.put p z).deep ≤ max x.deep (p.length + z.deep)
  | x, [], y, z, e => by rw [Ix.put_nil]; simp; omega
  | .a f w, 0 :: r, y, z, e => by have := put_deep' f r y z e; simp only [Ix.put, Ix.deep, List.length_cons]; omega
  | .a f w, 1 :: r, y, z, e => by have := put_deep' w r y z e; simp only [Ix.put, Ix.deep, List.length_cons]; omega
  | .l b, 0 :: r, y, z, e => by have := put_deep' b r y z e; simp only [Ix.put, Ix.deep, List.length_cons]; omega
  | .nm _, _ :: _, _, _, e => by simp [Ix.sb] at e
  | .v _, _ :: _, _, _, e => by simp [Ix.sb] at e
  | .a _ _, (_ + 2) :: _, _, _, e => by simp [Ix.sb] at e
  | .l _, (_ + 1) :: _, _, _, e => by simp [Ix.sb] at e
theorem sb_nms : ∀ (x : Ix) (p : List Nat) (y : Ix) (k : Str), x.sb p = some y → k ∈ y.nms → k ∈ x.nms
  | x, [], y, k, e, h => by rw [Ix.sb_nil] at e; cases e; exact h
  | .a f w, 0 :: r, y, k, e, h => List.mem_append_left _ (sb_nms f r y k e h)
  | .a f w, 1 :: r, y, k, e, h => List.mem_append_right _ (sb_nms w r y k e h)
  | .l b, 0 :: r, y, k, e, h => sb_nms b r y k e h
  | .nm _, _ :: _, _, _, e, _ => by simp [Ix.sb] at e
  | .v _, _ :: _, _, _, e, _ => by simp [Ix.sb] at e
  | .a _ _, (_ + 2) :: _, _, _, e, _ => by simp [Ix.sb] at e
  | .l _, (_ + 1) :: _, _, _, e, _ => by simp [Ix.sb] at e
theorem put_nms' : ∀ (x : Ix) (p : List Nat) (y z : Ix) (k : Str), x.sb p = some y → k ∈ (x.put p z).nms → k ∈ x.nms ∨ k ∈ z.nms
  | x, [], y, z, k, e, h => by rw [Ix.put_nil] at h; exact .inr h
  | .a f w, 0 :: r, y, z, k, e, h => by
    simp only [Ix.put, Ix.nms, List.mem_append] at *
    rcases h with h | h
    · rcases put_nms' f r y z k e h with h | h <;> simp [h]
    · simp [h]
  | .a f w, 1 :: r, y, z, k, e, h => by
    simp only [Ix.put, Ix.nms, List.mem_append] at *
    rcases h with h | h
    · simp [h]
    · rcases put_nms' w r y z k e h with h | h <;> simp [h]
  | .l b, 0 :: r, y, z, k, e, h => put_nms' b r y z k e h
  | .nm _, _ :: _, _, _, _, e, _ => by simp [Ix.sb] at e
  | .v _, _ :: _, _, _, _, e, _ => by simp [Ix.sb] at e
  | .a _ _, (_ + 2) :: _, _, _, _, e, _ => by simp [Ix.sb] at e
  | .l _, (_ + 1) :: _, _, _, _, e, _ => by simp [Ix.sb] at e
/-- the step at a path -/
def Ix.stp (x : Ix) (p : List Nat) : Ix := match x.sb p with
  | some (.a (.l b) o) => x.put p (b.opn o)
  | _ => x
theorem stp_eq {x b o : Ix} {p : List Nat} (h : x.sb p = some (.a (.l b) o)) : x.stp p = x.put p (b.opn o) := by unfold Ix.stp; rw [h]
theorem stp_low {x : Ix} {p : List Nat} (h : x.low 0) (hp : p ∈ x.stps) : (x.stp p).low 0 := by
  obtain ⟨b, o, e⟩ := stps_mem.mp hp
  rw [stp_eq e]
  exact put_low' x p 0 (.a (.l b) o) _ h (fun e' h' => opn_low o e' h'.2 b 0 h'.1) e
theorem stp_deep {x : Ix} {p : List Nat} (hp : p ∈ x.stps) : (x.stp p).deep ≤ 2 * x.deep := by
  obtain ⟨b, o, e⟩ := stps_mem.mp hp
  rw [stp_eq e]
  have h1 := put_deep' x p _ (b.opn o) e
  have h2 := opn_deep o b 0
  have h3 := sb_deep x p _ e
  have h4 : (b.opn o).deep ≤ b.deep + o.deep := h2
  simp only [Ix.deep] at h3
  omega
theorem stp_nms {x : Ix} {p : List Nat} (hp : p ∈ x.stps) {k : Str} (hk : k ∈ (x.stp p).nms) : k ∈ x.nms := by
  obtain ⟨b, o, e⟩ := stps_mem.mp hp
  rw [stp_eq e] at hk
  rcases put_nms' x p _ _ k e hk with h | h
  · exact h
  · refine sb_nms x p _ k e ?_
    rcases opn_nms o b 0 k h with h | h
    · exact List.mem_append_left _ h
    · exact List.mem_append_right _ h
theorem stp_good {x : Ix} {p : List Nat} (g : x.good) (hp : p ∈ x.stps) : (x.stp p).good := fun s hs => g s (stp_nms hp hs)
theorem sb_size {x y : Ix} {p : List Nat} (e : x.sb p = some y) : y.size ≤ x.size := by
  have h3 := put_size' x p y (.v 0) e
  have h4 := (x.put p (.v 0)).size_pos
  simp only [Ix.size] at h3
  omega
def sp_raw_step (K : PySem.W.Frag) : ASp := fun va S R _ => ∃ (x : Ix) (p : List Nat), va = [x.val, pathV p] ∧ p ∈ x.stps ∧ x.size ≤ 4000 ∧ x.deep ≤ 100 ∧ (x.stp p).size ≤ 2000 ∧ ∀ S', Ext S S' → R (x.stp p).val S'
theorem pf_raw_step {K : PySem.W.Frag} : ∀ va S R RE, sp_raw_step K va S R RE → rd_raw_step K (sp_at_path K) (sp_opened K) (sp_with_at K) (sp_grown K) (D0 R RE) (astart N_raw_step va) S := by
  rintro va S R RE ⟨x, p, rfl, hp, hs, hd, hs2, ret⟩
  have hd2 := stp_deep hp
  obtain ⟨b, o, e⟩ := stps_mem.mp hp
  have hz := sb_size e
  have hl := sb_deep x p _ e
  simp only [Ix.size] at hz
  rw [stp_eq e] at hs2 ret hd2
  unfold rd_raw_step
  simp! only []
  have i1 : L2.atI [Val.str "of", (Ix.l b).val, o.val] 1 = some (Ix.l b).val := rfl
  have i2 : L2.atI [Val.str "of", (Ix.l b).val, o.val] 2 = some o.val := rfl
  have i3 : L2.atI [Val.str "with", b.val] 1 = some b.val := rfl
  refine ⟨x, _, p, rfl, e, ?_⟩
  rw [show (Ix.a (.l b) o).val = .tup [.str "of", (Ix.l b).val, o.val] from rfl]
  simp! only [i1, i2]
  rw [show (Ix.l b).val = .tup [.str "with", b.val] from rfl]
  simp! only [i3]
  exact ⟨b, o, rfl, by omega, by omega, fun S1 X1 => ⟨x, _, b.opn o, p, rfl, e, by omega, fun S2 X2 => ⟨_, rfl, hs2, by omega, fun S3 X3 => ret S3 ((X1.trans X2).trans X3)⟩⟩⟩
end G

set_option Elab.async false
set_option linter.all false
set_option maxRecDepth 100000
set_option maxHeartbeats 1000000
set_option exponentiation.threshold 1000
namespace G
open PySem A3
/-! ### parts of a term -/
structure Np where
  p : List Nat
  t : Tm
def Np.kids (n : Np) : List Np := match n.t with
  | .v _ => []
  | .a f x => [⟨n.p ++ [0], f⟩, ⟨n.p ++ [1], x⟩]
  | .l _ b => [⟨n.p ++ [0], b⟩]
theorem Tm.deep_pos : ∀ t : Tm, 1 ≤ t.deep := fun t => by cases t <;> simp [Tm.deep]
end G

set_option Elab.async false
set_option linter.all false
set_option maxRecDepth 100000
set_option maxHeartbeats 1000000
set_option exponentiation.threshold 1000
namespace G
open PySem A3
/-- a term that is not deep -/
def Wd (k : Nat) (y : Val) : Prop := ∃ t : Tm, y = t.val ∧ t.good = true ∧ t.deep ≤ k
theorem Wd.mono {k m : Nat} {y : Val} (h : Wd k y) (e : k ≤ m) : Wd m y := by
  obtain ⟨t, h1, h2, h3⟩ := h
  exact ⟨t, h1, h2, by omega⟩
theorem Wd.of {k : Nat} {x y : Val} (h : Wd k x) (g : Wd k y) : Wd (k + 1) (.tup [.str "of", x, y]) := by
  obtain ⟨t, rfl, h2, h3⟩ := h
  obtain ⟨u, rfl, g2, g3⟩ := g
  exact ⟨.a t u, rfl, by simp only [Tm.good, h2, g2]; rfl, by simp only [Tm.deep]; omega⟩
end G

set_option Elab.async false
set_option linter.all false
set_option maxRecDepth 100000
set_option maxHeartbeats 1000000
set_option exponentiation.threshold 1000
namespace G
open PySem A3
/-! ### the family of k10 to k19: a hand of numbers of any size, numbered terms by recursion -/
def sp__law_hand (K : PySem.W.Frag) : ASp := fun va S R _ => ∃ (a : Addr) (ns : List Int), va = [.ref a] ∧ (S a = some (.lst (ns.map .int)) ∨ S a = some (.rd (ns.map .int))) ∧ ∀ h p S', Hand S' h p → Ext S S' → S h = none → R (.ref h) S'
theorem pf__law_hand {K : PySem.W.Frag} : ∀ va S R RE, sp__law_hand K va S R RE → rd__law_hand K (D0 R RE) (astart N__law_hand va) S := by
  rintro va S R RE ⟨a, ns, rfl, ha, r⟩
  unfold rd__law_hand
  have hk : ∀ F : List Val → Prop, kL (S a) F = F (ns.map .int) := fun F => by rcases ha with e | e <;> rw [e] <;> rfl
  simp! only []
  refine lc_map (fun x => match x with | .int i => .int (if i < 0 then -i else i) | x => x) fun N hN => ?_
  simp! only [hk]
  intro q hq
  refine hN _ _ ?_ ?_ ?_ ?_
  · show (cutA (ns.map .int) none (some ((63 : Nat) : Int))).length ≤ sizeLine
    rw [cutA_take]
    exact Nat.le_trans (List.length_take_le _ _) (by decide)
  · exact fun S1 e => .inl (e _ _ (by rw [ups_same]))
  · intro i x S1 hx e Y hY
    have hx' : x ∈ (ns.map Val.int) := by
      have h1 : x ∈ cutA (ns.map .int) none (some ((63 : Nat) : Int)) := List.mem_of_getElem? hx
      rw [cutA_take] at h1
      exact List.mem_of_mem_take h1
    obtain ⟨z, _, rfl⟩ := List.mem_map.mp hx'
    simp! only []
    exact hY _ (.refl _)
  · intro p S1 np e hp
    have e63 : (some (63 : Int)) = some ((63 : Nat) : Int) := rfl
    rw [e63, cutA_take, ← List.map_take, List.map_map] at hp
    have hp' : S1 p = some (.lst (((ns.take 63).map fun i => if i < 0 then -i else i).map .int)) := by rw [hp, List.map_map]; rfl
    simp! only [hp', List.length_map]
    refine ⟨.inl (.inl ⟨by decide, by decide⟩), by decide, fun h hh => r h p _ ⟨⟨_, _, _, _, _, by rw [ups_same], by rw [ups_ne (ne_of_new hp hh)]; exact hp', ne_of_new hp hh, by decide, by decide⟩⟩ ?_ ?_⟩
    · exact ((Ext.new hq).trans e).trans (.new hh)
    · cases q2 : S h with
      | none => rfl
      | some c => rw [e _ _ (by rw [ups_ne (ne_of_new q2 hq)]; exact q2)] at hh; cases hh
/-- a comprehension, what comes told place by place -/
theorem lc_pt {ai : AI} {g : AG} {te : AE} {vs : List Nat} {E : AX} {es : AEnv} {S : Store} {R : AK}
    (h : ∀ N : Seq → Store → Prop, (∀ (q : Seq) (S1 : Store) (ys : List Val), q.xs.length ≤ sizeLine → ys.length = q.xs.length → (∀ S, Ext S1 S → q.ok S) →
      (∀ (i : Nat) (x y : Val) (S : Store), q.xs[i]? = some x → ys[i]? = some y → Ext S1 S → ∀ (Y : Val → Store → Prop), (∀ S4, Ext S S4 → Y y S4) → g X0 x (awipe es vs) S fun es2 S2 => te X0 es2 S2 Y) →
      (∀ p S, S1 p = none → Ext S1 S → S p = some (.lst ys) → R (.ref p) S) → N q S1) → ai E es S N) : aLc ai g aYes te vs E es S R := by
  refine h _ fun q S1 ys hs hl ok step fin p hp => ?_
  refine ⟨fun i S => Ext S1 S ∧ S p = some (.lst (ys.take i)) ∧ i ≤ q.xs.length, ⟨.new hp, by rw [ups_same]; rfl, Nat.zero_le _⟩, fun i S ⟨e, h1, h3⟩ => ⟨ok S e, fun x hx => ?_, fun hi => ?_⟩⟩
  · have hlt : i < q.xs.length := (List.getElem?_eq_some_iff.mp hx).1
    have hy : ys[i]? = some (ys[i]'(by omega)) := List.getElem?_eq_getElem _
    refine step i x _ S hx hy e _ fun S4 e4 => ?_
    refine ⟨_, e4 _ _ h1, by rw [List.length_take]; omega, (e.trans e4).put hp, ?_, by omega⟩
    rw [ups_same, List.take_add_one, hy]
    rfl
  · rw [List.take_of_length_le (by omega)] at h1
    exact fin p S hp e h1
theorem ixTy {S : Store} (x : Ix) : tyOk x.val S := by cases x <;> simp [Ix.val, tyOk, tyV?]
def nmB : Ix → Bool
  | .nm _ => true
  | .v _ => true
  | _ => false
def sp__law_is_name (K : PySem.W.Frag) : ASp := fun va S R _ => ∃ x : Ix, va = [x.val] ∧ R (.bl (nmB x)) S
theorem pf__law_is_name {K : PySem.W.Frag} : ∀ va S R RE, sp__law_is_name K va S R RE → rd__law_is_name K (D0 R RE) (astart N__law_is_name va) S := by
  rintro va S R RE ⟨x, rfl, ret⟩
  unfold rd__law_is_name
  cases x with
  | nm s =>
    simp! only []
    exact ⟨ixTy _, by rw [show isI "str" (Ix.nm s).val S = true from rfl, if_pos rfl]; exact ret⟩
  | v n =>
    simp! only []
    refine ⟨ixTy _, ?_⟩
    rw [show isI "str" (Ix.v n).val S = false by simp [Ix.val, isI, tyV?, subTy], if_neg Bool.false_ne_true, show isI "int" (Ix.v n).val S = true by simp [Ix.val, isI, tyV?, subTy]]
    exact ⟨ixTy _, ret⟩
  | a f g =>
    simp! only []
    refine ⟨ixTy _, ?_⟩
    rw [show isI "str" (Ix.a f g).val S = false from rfl, if_neg Bool.false_ne_true, show isI "int" (Ix.a f g).val S = false by simp [Ix.val, isI, tyV?, subTy]]
    exact ⟨ixTy _, ret⟩
  | l b =>
    simp! only []
    refine ⟨ixTy _, ?_⟩
    rw [show isI "str" (Ix.l b).val S = false from rfl, if_neg Bool.false_ne_true, show isI "int" (Ix.l b).val S = false by simp [Ix.val, isI, tyV?, subTy]]
    exact ⟨ixTy _, ret⟩
theorem Ix.deep_pos' : ∀ x : Ix, 1 ≤ x.deep
  | .nm _ => Nat.le_refl _
  | .v _ => Nat.le_refl _
  | .a _ _ => by simp only [Ix.deep]; omega
  | .l _ => by simp only [Ix.deep]; omega
def sp__law_size (d : Nat) (K : PySem.W.Frag) : ASp := fun va S R _ => ∃ x : Ix, va = [x.val] ∧ x.deep ≤ d ∧ ∀ S', Ext S S' → R (.int (x.size : Int)) S'
theorem pf__law_size {K : PySem.W.Frag} (d : Nat) : ∀ va S R RE, sp__law_size (d + 1) K va S R RE → rd__law_size K (sp__law_is_name K) (sp__law_size d K) (D0 R RE) (astart N__law_size va) S := by
  rintro va S R RE ⟨x, rfl, hd, ret⟩
  unfold rd__law_size
  simp! only []
  refine ⟨x, rfl, ?_⟩
  cases x with
  | nm s => exact ret S (.refl _)
  | v n => exact ret S (.refl _)
  | a f g =>
    simp only [nmB, Bool.false_eq_true, if_false]
    simp only [Ix.deep] at hd
    refine lc_pt fun M hM => ?_
    have c1 : cutA [.str "of", f.val, g.val] (some 1) none = [f.val, g.val] := cutA_drop (k := 1)
    simp only [Ix.val]
    simp! only [c1]
    refine hM _ _ [.int (f.size : Int), .int (g.size : Int)] (show 2 ≤ sizeLine by decide) rfl (fun _ _ => trivial) (fun i x y S1 hx hy e Y hY => ?_) fun p S3 _ e h3 => ?_
    · simp! only []
      match i, hx, hy with
      | 0, hx, hy => cases hx; cases hy; exact ⟨f, rfl, by omega, hY⟩
      | 1, hx, hy => cases hx; cases hy; exact ⟨g, rfl, by omega, hY⟩
    · refine ⟨[(f.size : Int), (g.size : Int)], .inl h3, ?_⟩
      simp! only []
      have e1 : (1 : Int) + ([(f.size : Int), (g.size : Int)]).sum = ((Ix.a f g).size : Int) := by simp [Ix.size]; omega
      rw [e1]
      exact ret S3 e
  | l b =>
    simp only [nmB, Bool.false_eq_true, if_false]
    simp only [Ix.deep] at hd
    refine lc_pt fun M hM => ?_
    have c1 : cutA [.str "with", b.val] (some 1) none = [b.val] := cutA_drop (k := 1)
    simp only [Ix.val]
    simp! only [c1]
    refine hM _ _ [.int (b.size : Int)] (show 1 ≤ sizeLine by decide) rfl (fun _ _ => trivial) (fun i x y S1 hx hy e Y hY => ?_) fun p S3 _ e h3 => ?_
    · simp! only []
      match i, hx, hy with
      | 0, hx, hy => cases hx; cases hy; exact ⟨b, rfl, by omega, hY⟩
    · refine ⟨[(b.size : Int)], .inl h3, ?_⟩
      simp! only []
      have e1 : (1 : Int) + ([(b.size : Int)]).sum = ((Ix.l b).size : Int) := by simp [Ix.size]; omega
      rw [e1]
      exact ret S3 e
def sp__law_deep (d : Nat) (K : PySem.W.Frag) : ASp := fun va S R _ => ∃ x : Ix, va = [x.val] ∧ x.deep ≤ d ∧ ∀ S', Ext S S' → R (.int (x.deep : Int)) S'
theorem pf__law_deep {K : PySem.W.Frag} (d : Nat) : ∀ va S R RE, sp__law_deep (d + 1) K va S R RE → rd__law_deep K (sp__law_is_name K) (sp__law_deep d K) (D0 R RE) (astart N__law_deep va) S := by
  rintro va S R RE ⟨x, rfl, hd, ret⟩
  unfold rd__law_deep
  simp! only []
  refine ⟨x, rfl, ?_⟩
  cases x with
  | nm s => exact ret S (.refl _)
  | v n => exact ret S (.refl _)
  | a f g =>
    simp only [nmB, Bool.false_eq_true, if_false]
    have hd' : max f.deep g.deep + 1 ≤ d + 1 := hd
    refine lc_pt fun M hM => ?_
    have c1 : cutA [.str "of", f.val, g.val] (some 1) none = [f.val, g.val] := cutA_drop (k := 1)
    simp only [Ix.val]
    simp! only [c1]
    refine hM _ _ [.int (f.deep : Int), .int (g.deep : Int)] (show 2 ≤ sizeLine by decide) rfl (fun _ _ => trivial) (fun i x y S1 hx hy e Y hY => ?_) fun p S3 _ e h3 => ?_
    · simp! only []
      match i, hx, hy with
      | 0, hx, hy => cases hx; cases hy; exact ⟨f, rfl, by omega, hY⟩
      | 1, hx, hy => cases hx; cases hy; exact ⟨g, rfl, by omega, hY⟩
    · refine ⟨[(f.deep : Int), (g.deep : Int)], .inl h3, Nat.succ_pos _, fun m hm hx => ?_⟩
      simp! only []
      have h1 := hx f.deep (by simp)
      have h2 := hx g.deep (by simp)
      have e1 : (1 : Int) + m = ((Ix.a f g).deep : Int) := by
        simp only [Ix.deep]
        simp only [List.mem_cons, List.not_mem_nil, or_false] at hm
        rcases hm with rfl | rfl <;> omega
      rw [e1]
      exact ret S3 e
  | l b =>
    simp only [nmB, Bool.false_eq_true, if_false]
    have hd' : b.deep + 1 ≤ d + 1 := hd
    refine lc_pt fun M hM => ?_
    have c1 : cutA [.str "with", b.val] (some 1) none = [b.val] := cutA_drop (k := 1)
    simp only [Ix.val]
    simp! only [c1]
    refine hM _ _ [.int (b.deep : Int)] (show 1 ≤ sizeLine by decide) rfl (fun _ _ => trivial) (fun i x y S1 hx hy e Y hY => ?_) fun p S3 _ e h3 => ?_
    · simp! only []
      match i, hx, hy with
      | 0, hx, hy => cases hx; cases hy; exact ⟨b, rfl, by omega, hY⟩
    · refine ⟨[(b.deep : Int)], .inl h3, Nat.succ_pos _, fun m hm hx => ?_⟩
      simp! only []
      have e1 : (1 : Int) + m = ((Ix.l b).deep : Int) := by
        simp only [Ix.deep]
        rw [List.mem_singleton.mp hm]
        omega
      rw [e1]
      exact ret S3 e
end G

set_option Elab.async false
set_option linter.all false
set_option maxRecDepth 100000
set_option maxHeartbeats 1000000
set_option exponentiation.threshold 1000
namespace G
open PySem A3
def Ix.kids : Ix → List Ix
  | .a f x => [f, x]
  | .l b => [b]
  | _ => []
theorem Ix.kids_val {x : Ix} (h : nmB x = false) : ∃ w : Val, x.val = .tup (w :: x.kids.map Ix.val) := by
  cases x with
  | a f g => exact ⟨_, rfl⟩
  | l b => exact ⟨_, rfl⟩
  | nm s => cases h
  | v n => cases h
theorem Ix.kids_nms {x : Ix} (h : nmB x = false) : x.kids.flatMap Ix.nms = x.nms := by
  cases x with
  | a f g => simp [Ix.kids, Ix.nms]
  | l b => simp [Ix.kids, Ix.nms]
  | nm s => cases h
  | v n => cases h
theorem Ix.kids_deep {x z : Ix} (h : z ∈ x.kids) : z.deep + 1 ≤ x.deep ∧ z.size + 1 ≤ x.size := by
  cases x with
  | a f g =>
    simp only [Ix.kids, List.mem_cons, List.not_mem_nil, or_false] at h
    simp only [Ix.deep, Ix.size]
    rcases h with rfl | rfl <;> omega
  | l b =>
    simp only [Ix.kids, List.mem_cons, List.not_mem_nil, or_false] at h
    simp only [Ix.deep, Ix.size]
    subst h
    omega
  | nm s => cases h
  | v n => cases h
def sp__law_free (d : Nat) (K : PySem.W.Frag) : ASp := fun va S R _ => ∃ x : Ix, va = [x.val] ∧ x.deep ≤ d ∧ x.size ≤ 100000 ∧ ∀ q S', Ext S S' → S q = none → S' q = some (.lst (x.nms.map .str)) → R (.ref q) S'
theorem pf__law_free {K : PySem.W.Frag} (d : Nat) : ∀ va S R RE, sp__law_free (d + 1) K va S R RE → rd__law_free K (sp__law_is_name K) (sp__law_free d K) (D0 R RE) (astart N__law_free va) S := by
  rintro va S0 R RE ⟨x, rfl, hd, hs, ret⟩
  unfold rd__law_free
  refine cut2 (fun es S => es = [some x.val, none, none] ∧ S = S0 ∧ nmB x = false) (fun N hN => ?_) ?_
  · simp! only []
    refine ⟨x, rfl, ?_⟩
    cases x with
    | nm s =>
      simp only [nmB, if_true]
      refine ⟨ixTy _, ?_⟩
      rw [show isI "str" (Ix.nm s).val S0 = true from rfl, if_pos rfl]
      exact ⟨by decide, fun q hq => ret q _ (.new hq) hq ups_same⟩
    | v n =>
      simp only [nmB, if_true]
      refine ⟨ixTy _, ?_⟩
      rw [show isI "str" (Ix.v n).val S0 = false by simp [Ix.val, isI, tyV?, subTy], if_neg Bool.false_ne_true]
      exact ⟨by decide, fun q hq => ret q _ (.new hq) hq ups_same⟩
    | a f g =>
      simp only [nmB, Bool.false_eq_true, if_false]
      exact hN _ _ ⟨rfl, rfl, rfl⟩
    | l b =>
      simp only [nmB, Bool.false_eq_true, if_false]
      exact hN _ _ ⟨rfl, rfl, rfl⟩
  rintro _ S ⟨rfl, rfl, hn⟩
  obtain ⟨w, hw⟩ := Ix.kids_val hn
  refine cut2 (fun es S1 => ∃ p, es = [some x.val, some (.ref p), none] ∧ S p = none ∧ S1 p = some (.lst []) ∧ Ext S S1) (fun N hN => ?_) ?_
  · simp! only []
    exact ⟨by decide, fun p hp => hN _ _ ⟨p, rfl, hp, ups_same, .new hp⟩⟩
  rintro _ S1 ⟨p, rfl, p0, hp, X⟩
  refine cut2 (fun es S1 => ∃ p o2, es = [some x.val, some (.ref p), o2] ∧ S p = none ∧ S1 p = some (.lst (x.nms.map .str)) ∧ Ext S S1) (fun N hN => ?_) ?_
  · refine for_rest fun M hM => ?_
    rw [hw]
    have c1 : cutA (w :: x.kids.map Ix.val) (some 1) none = x.kids.map Ix.val := cutA_drop (k := 1)
    dsimp! only [c1]
    refine hM _ _ ⟨fun l es S2 => ∃ (p : Addr) (o2 : Option Val) (zs : List Ix) (ks : List Str), es = [some (.tup (w :: x.kids.map Ix.val)), some (.ref p), o2] ∧ S p = none ∧ S2 p = some (.lst (ks.map .str)) ∧ Ext S S2 ∧ l = zs.map Ix.val ∧ ks ++ zs.flatMap Ix.nms = x.nms ∧ ∀ z, z ∈ zs → z ∈ x.kids,
      ⟨p, none, x.kids, [], by rw [hw], p0, hp, X, rfl, Ix.kids_nms hn, fun z hz => hz⟩, fun _ _ _ _ => trivial, ?_, ?_⟩
    · rintro y l _ S2 ⟨p, o2, zs, ks, rfl, p0, hp, X, hl, hks, hzs⟩
      cases zs with
      | nil => cases hl
      | cons z zs =>
        simp only [List.map_cons, List.cons.injEq] at hl
        obtain ⟨rfl, rfl⟩ := hl
        rw [x_name]
        simp only [List.set_cons_zero, List.set_cons_succ]
        refine hide fun N2 hN2 => ?_
        obtain ⟨z1, z2⟩ := Ix.kids_deep (hzs z List.mem_cons_self)
        have hnl := x.nms_len
        have e0 : ks.length + z.nms.length ≤ x.nms.length := by
          rw [← hks]
          simp only [List.flatMap_cons, List.length_append]
          omega
        simp! only []
        refine ⟨z, rfl, by omega, by omega, fun q S3 X3 q0 hq => ?_⟩
        refine ⟨_, _, X3 _ _ hp, hq, by simp only [List.length_map, sizeLine]; omega, fun u hu => ?_⟩
        have X4 := (X.trans X3)
        refine hN2 _ _ ⟨u, _, zs, ks ++ z.nms, rfl, X4.none hu, by rw [ups_same, List.map_append], X4.trans (.new hu), rfl, by rw [← hks]; simp, fun z hz => hzs z (List.mem_cons_of_mem _ hz)⟩
    · rintro _ S2 ⟨p, o2, zs, ks, rfl, p0, hp, X, hl, hks, hzs⟩
      have : zs = [] := by
        cases zs with
        | nil => rfl
        | cons _ _ => cases hl
      subst this
      simp only [List.flatMap_nil, List.append_nil] at hks
      subst hks
      exact hN _ _ ⟨p, _, by rw [hw], p0, hp, X⟩
  rintro _ S2 ⟨p, o2, rfl, p0, hp, X⟩
  simp! only []
  exact ret p S2 X p0 hp
def sp__law_is_step (K : PySem.W.Frag) : ASp := fun va S R _ => ∃ x : Ix, va = [x.val] ∧ R (.bl x.redex) S
theorem pf__law_is_step {K : PySem.W.Frag} : ∀ va S R RE, sp__law_is_step K va S R RE → rd__law_is_step K (sp__law_is_name K) (D0 R RE) (astart N__law_is_step va) S := by
  rintro va S R RE ⟨x, rfl, ret⟩
  unfold rd__law_is_step
  simp! only []
  refine ⟨x, rfl, ?_⟩
  cases x with
  | nm s => simp only [nmB, if_true]; exact ret
  | v n => simp only [nmB, if_true]; exact ret
  | l b =>
    simp only [nmB, Bool.false_eq_true, if_false, Ix.val]
    simp! only []
    rw [show decide (Str.ofString "with" = Str.ofString "of") = false by decide +kernel]
    exact ret
  | a f g =>
    simp only [nmB, Bool.false_eq_true, if_false, Ix.val]
    simp! only []
    refine ⟨f, rfl, ?_⟩
    cases f with
    | nm s => exact ret
    | v n => exact ret
    | a f1 f2 =>
      simp only [nmB, Bool.not_false, if_true, Ix.val]
      simp! only []
      rw [show decide (Str.ofString "of" = Str.ofString "with") = false by decide +kernel]
      exact ret
    | l b =>
      simp only [nmB, Bool.not_false, if_true, Ix.val]
      simp! only []
      rw [decide_eq_true trivial]
      exact ret
def sp__law_lift (d : Nat) (K : PySem.W.Frag) : ASp := fun va S R _ => ∃ (x : Ix) (m c : Nat), va = [x.val, .int (m : Int), .int (c : Int)] ∧ x.deep ≤ d ∧ ∀ S', Ext S S' → R (x.chg (mvF m) c).val S'
theorem pf__law_lift {K : PySem.W.Frag} (d : Nat) : ∀ va S R RE, sp__law_lift (d + 1) K va S R RE → rd__law_lift K (sp__law_is_name K) (sp__law_lift d K) (D0 R RE) (astart N__law_lift va) S := by
  rintro va S R RE ⟨x, m, c, rfl, hd, ret⟩
  unfold rd__law_lift
  simp! only []
  refine ⟨x, rfl, ?_⟩
  cases x with
  | nm s =>
    simp only [nmB, if_true]
    refine ⟨ixTy _, ?_⟩
    rw [show isI "int" (Ix.nm s).val S = false from rfl, if_neg Bool.false_ne_true]
    exact ret S (.refl _)
  | v n =>
    simp only [nmB, if_true]
    refine ⟨ixTy _, ?_⟩
    rw [show isI "int" (Ix.v n).val S = true by simp [Ix.val, isI, tyV?, subTy], if_pos rfl]
    simp only [Ix.val]
    simp! only []
    have h1 := ret S (.refl _)
    by_cases h : c ≤ n
    · have e : (Ix.v n).chg (mvF m) c = .v (n + m) := by simp [Ix.chg, mvF, h]
      rw [e] at h1
      rw [decide_eq_true (show (c : Int) ≤ (n : Int) by omega), if_pos rfl]
      have e2 : (n : Int) + (m : Int) = ((n + m : Nat) : Int) := by omega
      rw [e2]
      exact h1
    · have e : (Ix.v n).chg (mvF m) c = .v n := by simp [Ix.chg, mvF, h]
      rw [e] at h1
      rw [decide_eq_false (show ¬ (c : Int) ≤ (n : Int) by omega), if_neg Bool.false_ne_true]
      exact h1
  | a f g =>
    simp only [nmB, Bool.false_eq_true, if_false, Ix.val]
    have hd' : max f.deep g.deep + 1 ≤ d + 1 := hd
    have c1 : cutA [.str "of", f.val, g.val] (some 1) none = [f.val, g.val] := cutA_drop (k := 1)
    simp! only []
    refine ⟨by decide, ?_⟩
    refine lc_pt fun M hM => ?_
    simp! only [c1]
    refine hM _ _ [(f.chg (mvF m) c).val, (g.chg (mvF m) c).val] (show 2 ≤ sizeLine by decide) rfl (fun _ _ => trivial) (fun i x y S1 hx hy e Y hY => ?_) fun p S3 _ e h3 => ?_
    · simp! only []
      match i, hx, hy with
      | 0, hx, hy => cases hx; cases hy; exact ⟨f, m, c, rfl, by omega, hY⟩
      | 1, hx, hy => cases hx; cases hy; exact ⟨g, m, c, rfl, by omega, hY⟩
    · refine ⟨_, .inl h3, ?_⟩
      simp! only []
      exact ⟨by decide, ret S3 e⟩
  | l b =>
    simp only [nmB, Bool.false_eq_true, if_false, Ix.val]
    have hd' : b.deep + 1 ≤ d + 1 := hd
    simp! only []
    rw [show decide (Str.ofString "with" = Str.ofString "of") = false by decide +kernel, if_neg Bool.false_ne_true]
    have e2 : (c : Int) + 1 = ((c + 1 : Nat) : Int) := by omega
    refine ⟨b, m, c + 1, by rw [e2], by omega, fun S1 X1 => ⟨by decide, ret S1 X1⟩⟩
def sp__law_put (d : Nat) (K : PySem.W.Frag) : ASp := fun va S R _ => ∃ (x o : Ix) (c : Nat), va = [x.val, o.val, .int (c : Int)] ∧ x.deep ≤ d ∧ o.deep ≤ 100 ∧ ∀ S', Ext S S' → R (x.chg (opF o) c).val S'
theorem pf__law_put {K : PySem.W.Frag} (d : Nat) : ∀ va S R RE, sp__law_put (d + 1) K va S R RE → rd__law_put K (sp__law_lift 100 K) (sp__law_put d K) (D0 R RE) (astart N__law_put va) S := by
  rintro va S R RE ⟨x, o, c, rfl, hd, hdo, ret⟩
  unfold rd__law_put
  simp! only []
  refine ⟨ixTy _, ?_⟩
  cases x with
  | nm s =>
    rw [show isI "str" (Ix.nm s).val S = true from rfl, if_pos rfl]
    exact ret S (.refl _)
  | v n =>
    rw [show isI "str" (Ix.v n).val S = false by simp [Ix.val, isI, tyV?, subTy], if_neg Bool.false_ne_true]
    refine ⟨ixTy _, ?_⟩
    rw [show isI "int" (Ix.v n).val S = true by simp [Ix.val, isI, tyV?, subTy], if_pos rfl]
    simp only [Ix.val]
    simp! only []
    rcases Nat.lt_trichotomy n c with h | h | h
    · have e : (Ix.v n).chg (opF o) c = .v n := by simp [Ix.chg, opF, h]
      have h1 := ret S (.refl _)
      rw [e] at h1
      rw [decide_eq_false (show ¬ (n : Int) = (c : Int) by omega), if_neg Bool.false_ne_true, decide_eq_false (show ¬ (c : Int) < (n : Int) by omega), if_neg Bool.false_ne_true]
      exact h1
    · subst h
      have e : (Ix.v n).chg (opF o) n = o.mv n := by simp [Ix.chg, opF]
      rw [decide_eq_true rfl, if_pos rfl]
      refine ⟨o, n, 0, rfl, hdo, fun S1 X1 => ?_⟩
      have h1 := ret S1 X1
      rw [e] at h1
      exact h1
    · have e : (Ix.v n).chg (opF o) c = .v (n - 1) := by
        have h2 : ¬ n < c := by omega
        have h3 : ¬ n = c := by omega
        simp [Ix.chg, opF, h2, h3]
      have h1 := ret S (.refl _)
      rw [e] at h1
      rw [decide_eq_false (show ¬ (n : Int) = (c : Int) by omega), if_neg Bool.false_ne_true, decide_eq_true (show (c : Int) < (n : Int) by omega), if_pos rfl]
      have e2 : (n : Int) - 1 = ((n - 1 : Nat) : Int) := by omega
      rw [e2]
      exact h1
  | a f g =>
    rw [show isI "str" (Ix.a f g).val S = false from rfl, if_neg Bool.false_ne_true]
    refine ⟨ixTy _, ?_⟩
    rw [show isI "int" (Ix.a f g).val S = false by simp [Ix.val, isI, tyV?, subTy], if_neg Bool.false_ne_true]
    simp only [Ix.val]
    have hd' : max f.deep g.deep + 1 ≤ d + 1 := hd
    have c1 : cutA [.str "of", f.val, g.val] (some 1) none = [f.val, g.val] := cutA_drop (k := 1)
    simp! only []
    refine ⟨by decide, ?_⟩
    refine lc_pt fun M hM => ?_
    simp! only [c1]
    refine hM _ _ [(f.chg (opF o) c).val, (g.chg (opF o) c).val] (show 2 ≤ sizeLine by decide) rfl (fun _ _ => trivial) (fun i x y S1 hx hy e Y hY => ?_) fun p S3 _ e h3 => ?_
    · simp! only []
      match i, hx, hy with
      | 0, hx, hy => cases hx; cases hy; exact ⟨f, o, c, rfl, by omega, hdo, hY⟩
      | 1, hx, hy => cases hx; cases hy; exact ⟨g, o, c, rfl, by omega, hdo, hY⟩
    · refine ⟨_, .inl h3, ?_⟩
      simp! only []
      exact ⟨by decide, ret S3 e⟩
  | l b =>
    rw [show isI "str" (Ix.l b).val S = false from rfl, if_neg Bool.false_ne_true]
    refine ⟨ixTy _, ?_⟩
    rw [show isI "int" (Ix.l b).val S = false by simp [Ix.val, isI, tyV?, subTy], if_neg Bool.false_ne_true]
    simp only [Ix.val]
    have hd' : b.deep + 1 ≤ d + 1 := hd
    simp! only []
    rw [show decide (Str.ofString "with" = Str.ofString "of") = false by decide +kernel, if_neg Bool.false_ne_true]
    have e2 : (c : Int) + 1 = ((c + 1 : Nat) : Int) := by omega
    refine ⟨b, o, c + 1, by rw [e2], by omega, hdo, fun S1 X1 => ⟨by decide, ret S1 X1⟩⟩
end G

set_option Elab.async false
set_option linter.all false
set_option maxRecDepth 100000
set_option maxHeartbeats 1000000
set_option exponentiation.threshold 1000
namespace G
open PySem A3
theorem path_shaped (q : List Nat) : SeqAt.shaped (pathD q) = true := by
  obtain ⟨h1, h2⟩ := paths_lay [q]
  simp only [List.map_cons, List.map_nil, PyData.canLayAll0, PyData.depthAll, Bool.and_true] at h1 h2
  unfold SeqAt.shaped
  rw [h1, decide_eq_true (by omega)]
  rfl
theorem path_drel {S : Store} (q : List Nat) : DRel S (pathV q) (pathD q) := by
  have h := paths_drel (S := S) [q]
  cases h with
  | cons h _ => exact h
theorem eq_path0 {S : Store} {R : AK} {q : List Nat} (h : R (.bl (decide (q = []))) S) : eqA (pathV q) (.tup []) S R := by
  refine eq_dat (path_drel q) (path_drel []) (path_shaped q) (path_shaped []) ?_
  rw [pathD_eqv]
  exact h
theorem Ix.sb_deep : ∀ (x : Ix) (q : List Nat) (y : Ix), x.sb q = some y → y.deep + q.length ≤ x.deep
  | x, [], y, h => by rw [Ix.sb_nil] at h; cases h; simp
  | .a f z, 0 :: r, y, h => by
    have := Ix.sb_deep f r y h
    simp only [Ix.deep, List.length_cons]
    omega
  | .a f z, 1 :: r, y, h => by
    have := Ix.sb_deep z r y h
    simp only [Ix.deep, List.length_cons]
    omega
  | .l b, 0 :: r, y, h => by
    have := Ix.sb_deep b r y h
    simp only [Ix.deep, List.length_cons]
    omega
  | .nm _, _ :: _, y, h => by simp [Ix.sb] at h
  | .v _, _ :: _, y, h => by simp [Ix.sb] at h
  | .l _, (n + 1) :: _, y, h => by simp [Ix.sb] at h
  | .a _ _, (n + 2) :: _, y, h => by simp [Ix.sb] at h
def sp__law_step (d : Nat) (K : PySem.W.Frag) : ASp := fun va S R _ => ∃ (x b o : Ix) (q : List Nat), va = [x.val, pathV q] ∧ x.sb q = some (.a (.l b) o) ∧ o.deep ≤ 100 ∧ q.length + b.deep + 1 ≤ d ∧ ∀ S', Ext S S' → R (x.put q (b.opn o)).val S'
theorem pf__law_step {K : PySem.W.Frag} (d : Nat) : ∀ va S R RE, sp__law_step (d + 1) K va S R RE → rd__law_step K (sp__law_put d K) (sp__law_step d K) (D0 R RE) (astart N__law_step va) S := by
  rintro va S R RE ⟨x, b, o, q, rfl, hb, hod, hq, ret⟩
  unfold rd__law_step
  cases q with
  | nil =>
    rw [Ix.sb_nil] at hb
    cases hb
    rw [Ix.put_nil] at ret
    simp! only []
    refine ⟨by decide, eq_path0 ?_⟩
    rw [decide_eq_true rfl]
    simp! only [Ix.val]
    exact ⟨b, o, 0, rfl, by simp only [List.length_nil] at hq; omega, hod, fun S1 X1 => ret S1 X1⟩
  | cons i r =>
    have hr : r.length + b.deep + 1 ≤ d := by simp only [List.length_cons] at hq; omega
    have c0 : cutA (((i :: r).map fun n : Nat => Val.int (n : Int))) (some 1) none = r.map fun n : Nat => Val.int (n : Int) := cutA_drop (k := 1)
    simp! only []
    refine ⟨by decide, eq_path0 ?_⟩
    rw [decide_eq_false (by simp)]
    simp! only []
    have c0' : cutA (Val.int (i : Int) :: r.map fun n : Nat => Val.int (n : Int)) (some 1) none = r.map fun n : Nat => Val.int (n : Int) := c0
    rw [c0']
    match x, i, hb, ret with
    | .a f z, 0, hb, ret =>
      have c1 : cutA [.str "of", f.val, z.val] none (some (((0 : Nat) : Int) + 1)) = [.str "of"] := cutA_take (k := 1)
      have c2 : cutA [.str "of", f.val, z.val] (some (((0 : Nat) : Int) + 1 + 1)) none = [z.val] := cutA_drop (k := 2)
      have i1 : L2.atI [.str "of", f.val, z.val] (((0 : Nat) : Int) + 1) = some f.val := atI_nat (i := 1)
      simp! only [Ix.val, c1, c2, i1]
      exact ⟨f, b, o, r, rfl, hb, hod, hr, fun S1 X1 => ⟨by decide, by decide, by decide, ret S1 X1⟩⟩
    | .a f z, 1, hb, ret =>
      have c1 : cutA [.str "of", f.val, z.val] none (some (((1 : Nat) : Int) + 1)) = [.str "of", f.val] := cutA_take (k := 2)
      have c2 : cutA [.str "of", f.val, z.val] (some (((1 : Nat) : Int) + 1 + 1)) none = [] := cutA_drop (k := 3)
      have i1 : L2.atI [.str "of", f.val, z.val] (((1 : Nat) : Int) + 1) = some z.val := atI_nat (i := 2)
      simp! only [Ix.val, c1, c2, i1]
      exact ⟨z, b, o, r, rfl, hb, hod, hr, fun S1 X1 => ⟨by decide, by decide, by decide, ret S1 X1⟩⟩
    | .l g, 0, hb, ret =>
      have c1 : cutA [.str "with", g.val] none (some (((0 : Nat) : Int) + 1)) = [.str "with"] := cutA_take (k := 1)
      have c2 : cutA [.str "with", g.val] (some (((0 : Nat) : Int) + 1 + 1)) none = [] := cutA_drop (k := 2)
      have i1 : L2.atI [.str "with", g.val] (((0 : Nat) : Int) + 1) = some g.val := atI_nat (i := 1)
      simp! only [Ix.val, c1, c2, i1]
      exact ⟨g, b, o, r, rfl, hb, hod, hr, fun S1 X1 => ⟨by decide, by decide, by decide, ret S1 X1⟩⟩
    | .nm _, _, hb, _ => simp [Ix.sb] at hb
    | .v _, _, hb, _ => simp [Ix.sb] at hb
    | .l _, n + 1, hb, _ => simp [Ix.sb] at hb
    | .a _ _, n + 2, hb, _ => simp [Ix.sb] at hb
def sp__law_indexed (d : Nat) (K : PySem.W.Frag) : ASp := fun va S R _ => ∃ (t : Tm) (q : Addr) (ns : List Str), va = [t.val, .ref q] ∧ S q = some (.lst (ns.map .str)) ∧ t.deep ≤ d ∧ ns.length + t.deep ≤ 1000 ∧ ∀ S', Ext S S' → R (t.idx ns).val S'
theorem pf__law_indexed {K : PySem.W.Frag} (d : Nat) : ∀ va S R RE, sp__law_indexed (d + 1) K va S R RE → rd__law_indexed K (sp__law_indexed d K) (D0 R RE) (astart N__law_indexed va) S := by
  rintro va S R RE ⟨t, q, ns, rfl, hq, hd, hl, ret⟩
  unfold rd__law_indexed
  have hts : tyOk t.val S := by cases t <;> simp [Tm.val, tyOk, tyV?]
  cases t with
  | v s =>
    simp! only [Tm.val, hq]
    refine ⟨hts, ?_⟩
    rw [show isI "str" (Val.str s) S = true from rfl, if_pos rfl]
    refine ⟨rfl, flat_strs ns, ?_⟩
    rw [inF_strs]
    have h1 := ret S (.refl _)
    simp only [Tm.idx] at h1
    by_cases hm : s ∈ ns
    · rw [if_pos hm] at h1
      rw [decide_eq_true hm, if_pos rfl]
      obtain ⟨g1, g2⟩ := idxOf_at hm
      refine ⟨trivial, _, ns.idxOf s, .str s, .inl hq, rfl, flat_strs ns, by rw [List.getElem?_map, g1]; rfl, by simp [eqF], fun m z' hlt hz => ?_, h1⟩
      rw [List.getElem?_map] at hz
      obtain ⟨u, hu, rfl⟩ := Option.map_eq_some_iff.mp hz
      have : u ≠ s := fun e => g2 m hlt (e ▸ hu)
      simp [eqF, this]
    · rw [if_neg hm] at h1
      rw [decide_eq_false hm, if_neg Bool.false_ne_true]
      exact h1
  | a f x =>
    have hd' : max f.deep x.deep + 1 ≤ d + 1 := hd
    simp only [Tm.deep] at hl
    simp! only [Tm.val]
    refine ⟨hts, ?_⟩
    rw [show isI "str" (.tup [Val.str (Str.ofString "of"), f.val, x.val]) S = false from rfl, if_neg Bool.false_ne_true, decide_eq_true trivial, if_pos rfl]
    exact ⟨f, q, ns, rfl, hq, by omega, by omega, fun S1 X1 => ⟨x, q, ns, rfl, X1 _ _ hq, by omega, by omega, fun S2 X2 => ⟨by decide, ret S2 (X1.trans X2)⟩⟩⟩
  | l s b =>
    have hd' : b.deep + 1 ≤ d + 1 := hd
    simp only [Tm.deep] at hl
    simp! only [Tm.val]
    refine ⟨hts, ?_⟩
    rw [show isI "str" (.tup [Val.str (Str.ofString "with"), Val.str s, b.val]) S = false from rfl, if_neg Bool.false_ne_true, show decide (Str.ofString "with" = Str.ofString "of") = false by decide +kernel, if_neg Bool.false_ne_true]
    refine ⟨by decide, fun p hp => ?_⟩
    have X1 : Ext S (ups S p (.lst [.str s])) := .new hp
    refine ⟨_, _, ups_same, X1 _ _ hq, by simp only [List.length_cons, List.length_nil, List.length_map, sizeLine]; omega, fun u hu => ?_⟩
    have X2 := X1.trans (.new (c := .lst ([.str s] ++ ns.map .str)) hu)
    exact ⟨b, u, s :: ns, rfl, by rw [ups_same]; rfl, by omega, by simp only [List.length_cons]; omega, fun S1 X3 => ⟨by decide, ret S1 (X2.trans X3)⟩⟩
def sp__law_led (d : Nat) (K : PySem.W.Frag) : ASp := fun va S R _ => ∃ (x : Ix) (q : Addr) (L : List Str) (F : Nat → Str) (c N : Nat), va = [x.val, .ref q, .int (c : Int)] ∧ S q = some (.lst (L.map .str)) ∧ x.deep ≤ d ∧ x.low c ∧ c + x.deep ≤ N + 1 ∧ (∀ i, i < N → L[i]? = some (F i)) ∧ ∀ S', Ext S S' → R (x.nmF F c).val S'
theorem pf__law_led {K : PySem.W.Frag} (d : Nat) : ∀ va S R RE, sp__law_led (d + 1) K va S R RE → rd__law_led K (sp__law_is_name K) (sp__law_led d K) (D0 R RE) (astart N__law_led va) S := by
  rintro va S R RE ⟨x, q, L, F, c, N, rfl, hq, hd, hlo, hcN, hL, ret⟩
  unfold rd__law_led
  simp! only []
  refine ⟨x, rfl, ?_⟩
  cases x with
  | nm s =>
    simp only [nmB, if_true]
    refine ⟨ixTy _, ?_⟩
    rw [show isI "str" (Ix.nm s).val S = true from rfl, if_pos rfl]
    exact ret S (.refl _)
  | v n =>
    simp only [nmB, if_true]
    refine ⟨ixTy _, ?_⟩
    rw [show isI "str" (Ix.v n).val S = false by simp [Ix.val, isI, tyV?, subTy], if_neg Bool.false_ne_true]
    simp! only [Ix.val, hq]
    have hn : n < c := hlo
    have e1 : (c : Int) - 1 - (n : Int) = ((c - 1 - n : Nat) : Int) := by omega
    simp only [Ix.deep] at hcN
    have e2 : (L.map Val.str)[c - 1 - n]? = some (.str (F (c - 1 - n))) := by rw [List.getElem?_map, hL _ (by omega)]; rfl
    rw [e1, atI_nat, e2]
    exact ret S (.refl _)
  | a f g =>
    simp only [nmB, Bool.false_eq_true, if_false, Ix.val]
    have hd' : max f.deep g.deep + 1 ≤ d + 1 := hd
    simp only [Ix.deep] at hcN
    simp! only []
    refine ⟨f, q, L, F, c, N, rfl, hq, by omega, hlo.1, by omega, hL, fun S1 X1 => ⟨g, q, L, F, c, N, rfl, X1 _ _ hq, by omega, hlo.2, by omega, hL, fun S2 X2 => ⟨by decide, ret S2 (X1.trans X2)⟩⟩⟩
  | l b =>
    simp only [nmB, Bool.false_eq_true, if_false, Ix.val]
    have hd' : b.deep + 1 ≤ d + 1 := hd
    have hbp := b.deep_pos'
    simp only [Ix.deep] at hcN
    have e2 : (L.map Val.str)[c]? = some (.str (F c)) := by rw [List.getElem?_map, hL _ (by omega)]; rfl
    have e3 : (c : Int) + 1 = ((c + 1 : Nat) : Int) := by omega
    simp! only [hq, atI_nat, e2, e3]
    rw [show decide (Str.ofString "with" = Str.ofString "of") = false by decide +kernel, if_neg Bool.false_ne_true]
    refine ⟨b, q, L, F, c + 1, N, rfl, hq, by omega, hlo, by omega, hL, fun S1 X1 => ⟨by decide, ret S1 X1⟩⟩
end G

set_option Elab.async false
set_option linter.all false
set_option maxRecDepth 100000
set_option maxHeartbeats 1000000
set_option exponentiation.threshold 1000
namespace G
open PySem A3
/-- for g in anything -/
theorem for_ai {ai : AI} {g : AG} {body : AS} {D : AEnds} {es : AEnv} {S : Store}
    (h : ∀ N : Seq → Store → Prop, (∀ q S1, (∃ I : List Val → AEnv → Store → Prop, I q.xs es S1 ∧ (∀ l es S, I l es S → q.ok S) ∧ (∀ x xs es S, I (x :: xs) es S → g (fun _ _ => False) x es S fun es2 S2 => body { D with nx := I xs, ct := I xs, bk := D.nx } es2 S2) ∧ ∀ es S, I [] es S → D.nx es S) → N q S1) → ai (D.xe es) es S N) : sFor ai g body D es S := by
  show ai (D.xe es) es S _
  refine h _ fun q S1 ⟨I, h0, h1, h2, h3⟩ => ⟨fun i => I (q.xs.drop i), h0, fun i es S hI => ⟨h1 _ _ _ hI, ?_, fun hi => ?_⟩⟩
  · intro x hx
    have hi := (List.getElem?_eq_some_iff.mp hx).1
    have e : q.xs.drop i = x :: q.xs.drop (i + 1) := by
      rw [List.drop_eq_getElem_cons hi, (List.getElem?_eq_some_iff.mp hx).2]
    simp only [e] at hI
    exact h2 _ _ _ _ hI
  · simp only [List.drop_of_length_le hi] at hI
    exact h3 _ _ hI
def firstS : List Str := ["a", "b", "c", "d"]
def grown4 (l : List Str) (D : List Str) : List Str := (lettersS ++ D.flatMap fun f => lettersS.map fun s => f ++ s).filter fun z => decide (z ∉ l)
theorem names130' : lettersS ++ firstS.flatMap (fun f => lettersS.map fun s => f ++ s) = (List.range 130).map nameAt := by decide +kernel
theorem grown4_all (l : List Str) : grown4 l firstS = frL l := by
  unfold grown4 frL
  rw [names130']
theorem grown4_snoc (l D : List Str) (f : Str) : grown4 l (D ++ [f]) = grown4 l D ++ (lettersS.map fun s => f ++ s).filter fun z => decide (z ∉ l) := by
  unfold grown4
  rw [List.flatMap_append, ← List.append_assoc, List.filter_append]
  simp
theorem signs_first : signs "abcd" = firstS.map .str := by
  unfold signs firstS
  rfl
theorem signs_small : signs "abcdefghijklmnopqrstuvwxyz" = lettersS.map .str := signs_letters
theorem letters_len : lettersS.length = 26 := by decide +kernel
theorem letters_one : ∀ s, s ∈ lettersS → s.length = 1 := by decide +kernel
theorem first_one : ∀ s, s ∈ firstS → s.length = 1 := by decide +kernel
theorem filterMap_strs (p : Str → Bool) (f : Val → Option Val) (h : ∀ s, f (.str s) = if p s = true then some (.str s) else none) : ∀ l : List Str, (l.map .str).filterMap f = (l.filter p).map .str
  | [] => rfl
  | s :: l => by
    rw [List.map_cons]
    cases hp : p s with
    | true => rw [List.filterMap_cons_some (b := .str s) (by rw [h, hp]; rfl), filterMap_strs p f h l, List.filter_cons_of_pos hp]; rfl
    | false => rw [List.filterMap_cons_none (by rw [h, hp]; rfl), filterMap_strs p f h l, List.filter_cons_of_neg (by rw [hp]; exact Bool.false_ne_true)]
theorem frL_get (l : List Str) {i : Nat} (h : i + l.length < 130) : (frL l)[i]? = some (frF l i) := by
  have h1 := frC_len l (c := 130) (by decide)
  exact frC_at l (c := 130) (i := i) (by decide) (by omega)
def sp__law_plain (K : PySem.W.Frag) : ASp := fun va S R _ => ∃ x : Ix, va = [x.val] ∧ x.low 0 ∧ x.deep ≤ 110 ∧ x.size ≤ 100000 ∧ Nx 120 x ∧ ∀ S', Ext S S' → R (namT x).val S'
theorem pf__law_plain {K : PySem.W.Frag} : ∀ va S R RE, sp__law_plain K va S R RE → rd__law_plain K (sp__law_free 110 K) (sp__law_led 110 K) (D0 R RE) (astart N__law_plain va) S := by
  rintro va S0 R RE ⟨x, rfl, hlo, hd, hs, hn, ret⟩
  unfold rd__law_plain
  refine cut2 (fun es S => ∃ q, es = [some x.val, some (.str "abcdefghijklmnopqrstuvwxyz"), some (.ref q), none, none, none] ∧ Ext S0 S ∧ S q = some (.lst (x.nms.map .str))) (fun N hN => ?_) ?_
  · simp! only []
    refine ⟨x, rfl, hd, hs, fun q S1 X1 q0 hq => ⟨by decide, trivial, trivial, hN _ _ ⟨q, rfl, X1, hq⟩⟩⟩
  rintro _ S ⟨q, rfl, X, hq⟩
  obtain ⟨ys, hys, eF⟩ : ∃ ys : List Str, (∀ k, k ∈ ys ↔ k ∈ x.nms) ∧ x.deep + ys.length ≤ 120 := by
    obtain ⟨ys, _, h2, h3⟩ := hn.frF
    exact ⟨ys, h3, h2⟩
  have eL : frL x.nms = frL ys := frL_congr fun k => (hys k).symm
  have eFF : frF x.nms = frF ys := frF_congr fun k => (hys k).symm
  refine cut2 (fun es S => ∃ g, es = [some x.val, some (.str "abcdefghijklmnopqrstuvwxyz"), some (.ref q), some (.ref g), none, none] ∧ S0 g = none ∧ q ≠ g ∧ Ext S0 S ∧ S q = some (.lst (x.nms.map .str)) ∧ S g = some (.lst ((grown4 x.nms []).map .str))) (fun N hN => ?_) ?_
  · rw [x_set]
    refine lc_if (fun v => match v with | .str s => if s ∈ x.nms then none else some (.str s) | _ => none) fun N2 hN2 => ?_
    show iStrA (aVar 1) _ _ _ _
    unfold iStrA
    dsimp! only []
    refine hN2 _ _ (by show (signs "abcdefghijklmnopqrstuvwxyz").length ≤ _; rw [signs_small, List.length_map, letters_len]; decide) (fun _ _ => trivial) (fun i v S4 hv e Nx Y hY hNx => ?_) fun g S4 hg e hg4 => ?_
    · have hv' : v ∈ signs "abcdefghijklmnopqrstuvwxyz" := List.mem_of_getElem? hv
      rw [signs_small] at hv'
      obtain ⟨z, hz, rfl⟩ := List.mem_map.mp hv'
      simp! only [e _ _ hq, flat, flat_strs, inF_strs]
      refine ⟨trivial, trivial, ?_⟩
      by_cases hzy : z ∈ x.nms
      · rw [if_neg (by simp [hzy])]
        exact hNx _ (by simp [hzy]) (.refl _)
      · rw [if_pos (by simp [hzy])]
        exact hY _ _ (by simp [hzy]) (.refl _)
    · refine hN _ _ ⟨g, rfl, X.none hg, ne_of_new hq hg, X.trans e, e _ _ hq, ?_⟩
      rw [hg4]
      show some (Cell.lst ((signs "abcdefghijklmnopqrstuvwxyz").filterMap _)) = _
      rw [signs_small, filterMap_strs (fun z => decide (z ∉ x.nms)) _ (fun z => by by_cases h : z ∈ x.nms <;> simp [h])]
      unfold grown4
      simp
  clear X hq S
  rintro _ S ⟨g, rfl, g0, hqg, X, hq, hg⟩
  refine cut2 (fun es S => ∃ o4, es = [some x.val, some (.str "abcdefghijklmnopqrstuvwxyz"), some (.ref q), some (.ref g), o4, none] ∧ Ext S0 S ∧ S g = some (.lst ((frL x.nms).map .str))) (fun N hN => ?_) ?_
  · refine for_ai fun M hM => ?_
    unfold iStrA
    dsimp! only []
    refine hM _ _ ⟨fun l es S2 => ∃ (o4 : Option Val) (D L : List Str), es = [some x.val, some (.str "abcdefghijklmnopqrstuvwxyz"), some (.ref q), some (.ref g), o4, none] ∧ Ext S0 S2 ∧ S2 q = some (.lst (x.nms.map .str)) ∧ l = L.map .str ∧ D ++ L = firstS ∧ S2 g = some (.lst ((grown4 x.nms D).map .str)),
      ⟨none, [], firstS, rfl, X, hq, signs_first, rfl, hg⟩, fun _ _ _ _ => trivial, ?_, ?_⟩
    · rintro y l _ S2 ⟨o4, D, L, rfl, X, hq, hl, hDL, hg2⟩
      cases L with
      | nil => cases hl
      | cons f L =>
        simp only [List.map_cons, List.cons.injEq] at hl
        obtain ⟨rfl, rfl⟩ := hl
        have hf : f.length = 1 := first_one f (by rw [← hDL]; simp)
        rw [x_name]
        simp only [List.set_cons_zero, List.set_cons_succ]
        refine hide fun N2 hN2 => ?_
        rw [x_drop]
        dsimp! only [hg2]
        refine ⟨trivial, ?_⟩
        refine lc_if (fun v => match v with | .str s => if f ++ s ∈ x.nms then none else some (.str (f ++ s)) | _ => none) fun N3 hN3 => ?_
        show iStrA (aVar 1) _ _ _ _
        unfold iStrA
        dsimp! only []
        refine hN3 _ _ (by show (signs "abcdefghijklmnopqrstuvwxyz").length ≤ _; rw [signs_small, List.length_map, letters_len]; decide) (fun _ _ => trivial) (fun i v S4 hv e Nx Y hY hNx => ?_) fun r S4 hr e hr4 => ?_
        · have hv' : v ∈ signs "abcdefghijklmnopqrstuvwxyz" := List.mem_of_getElem? hv
          rw [signs_small] at hv'
          obtain ⟨z, hz, rfl⟩ := List.mem_map.mp hv'
          have hz1 := letters_one z hz
          simp! only [e _ _ hq, flat, flat_strs, inF_strs]
          refine ⟨by rw [hf, hz1]; decide, trivial, trivial, ?_⟩
          by_cases hzy : f ++ z ∈ x.nms
          · rw [if_neg (by simp [hzy])]
            exact hNx _ (by simp [hzy]) (.refl _)
          · rw [if_pos (by simp [hzy])]
            exact ⟨by rw [hf, hz1]; decide, hY _ _ (by simp [hzy]) (.refl _)⟩
        · have hg4 := e _ _ hg2
          have hr4' : S4 r = some (.lst (((lettersS.map fun s => f ++ s).filter fun z => decide (z ∉ x.nms)).map .str)) := by
            rw [hr4]
            show some (Cell.lst ((signs "abcdefghijklmnopqrstuvwxyz").filterMap _)) = _
            rw [signs_small, ← filterMap_strs (fun z => decide (z ∉ x.nms)) (fun v => match v with | .str s => if s ∈ x.nms then none else some (.str s) | _ => none) (fun z => by by_cases h : z ∈ x.nms <;> simp [h]), List.map_map, List.filterMap_map, List.filterMap_map]
            rfl
          have hgl : (grown4 x.nms D).length ≤ 130 := by
            have h3 : (grown4 x.nms D).length ≤ (lettersS ++ D.flatMap fun f => lettersS.map fun s => f ++ s).length := List.length_filter_le _ _
            have h4 : (lettersS ++ D.flatMap fun f => lettersS.map fun s => f ++ s).length + ((f :: L).flatMap fun f => lettersS.map fun s => f ++ s).length = 130 := by
              rw [← List.length_append, List.append_assoc, ← List.flatMap_append, hDL, names130', List.length_map, List.length_range]
            omega
          simp! only [hg4, hr4']
          refine ⟨?_, ?_⟩
          · have h5 : ((lettersS.map fun s => f ++ s).filter fun z => decide (z ∉ x.nms)).length ≤ 26 := by
              have := List.length_filter_le (fun z => decide (z ∉ x.nms)) (lettersS.map fun s => f ++ s)
              rw [List.length_map, letters_len] at this
              exact this
            simp only [List.length_map, sizeLine]
            omega
          · refine hN2 _ _ ⟨_, D ++ [f], L, rfl, (X.trans e).put g0, ?_, rfl, by rw [← hDL]; simp, ?_⟩
            · rw [ups_ne hqg]
              exact e _ _ hq
            · rw [ups_same, grown4_snoc, List.map_append]
    · rintro _ S2 ⟨o4, D, L, rfl, X, hq, hl, hDL, hg2⟩
      have : L = [] := by
        cases L with
        | nil => rfl
        | cons _ _ => cases hl
      subst this
      rw [List.append_nil] at hDL
      subst hDL
      rw [grown4_all] at hg2
      exact hN _ _ ⟨_, rfl, X, hg2⟩
  clear X hq hg S
  rintro _ S ⟨o4, rfl, X, hg⟩
  simp! only []
  refine ⟨x, g, frL x.nms, frF x.nms, 0, x.deep, rfl, hg, hd, hlo, by omega, fun i hi => ?_, fun S1 X1 => ret S1 (X.trans X1)⟩
  rw [eL, eFF]
  exact frL_get ys (by omega)
end G

set_option Elab.async false
set_option linter.all false
set_option maxRecDepth 100000
set_option maxHeartbeats 1000000
set_option exponentiation.threshold 1000
namespace G
open PySem A3
/-! ### the step at the head -/
def Ix.hdp : Ix → Option (List Nat)
  | .a f x => if (Ix.a f x).redex = true then some [] else f.hdp.map fun p => 0 :: p
  | .l b => b.hdp.map fun p => 0 :: p
  | _ => none
theorem hdp_sb : ∀ (x : Ix) (p : List Nat), x.hdp = some p → ∃ b o, x.sb p = some (.a (.l b) o)
  | .nm _, p, h => by cases h
  | .v _, p, h => by cases h
  | .l b, p, h => by
    simp only [Ix.hdp] at h
    obtain ⟨q, hq, rfl⟩ := Option.map_eq_some_iff.mp h
    exact hdp_sb b q hq
  | .a f z, p, h => by
    simp only [Ix.hdp] at h
    split at h
    · next hr =>
      cases h
      cases f with
      | l b => exact ⟨b, z, Ix.sb_nil _⟩
      | nm s => cases hr
      | v n => cases hr
      | a f g => cases hr
    · obtain ⟨q, hq, rfl⟩ := Option.map_eq_some_iff.mp h
      exact hdp_sb f q hq
theorem hdp_stps {x : Ix} {p : List Nat} (h : x.hdp = some p) : p ∈ x.stps := stps_mem.mpr (hdp_sb x p h)
/-- what stands at the head's place, going down -/
def Ix.dn : Ix → Ix
  | .a f _ => f
  | .l b => b
  | x => x
theorem hdp_dn {x : Ix} (hn : nmB x = false) (hr : x.redex = false) : x.hdp = x.dn.hdp.map fun p => 0 :: p := by
  cases x with
  | nm s => cases hn
  | v n => cases hn
  | l b => rfl
  | a f z =>
    show (if (Ix.a f z).redex = true then some [] else f.hdp.map fun p => 0 :: p) = _
    rw [hr, if_neg Bool.false_ne_true]
    rfl
theorem hdp_rx {x : Ix} (hr : x.redex = true) : x.hdp = some [] := by
  cases x with
  | nm s => cases hr
  | v n => cases hr
  | l b => cases hr
  | a f z =>
    show (if (Ix.a f z).redex = true then some [] else f.hdp.map fun p => 0 :: p) = _
    rw [if_pos hr]
theorem hdp_nm {x : Ix} (hn : nmB x = true) : x.hdp = none := by
  cases x with
  | nm s => rfl
  | v n => rfl
  | l b => cases hn
  | a f z => cases hn
theorem dn_val {x : Ix} (hn : nmB x = false) : ∃ (w : Val) (r : List Val), x.val = .tup (w :: x.dn.val :: r) ∧ x.dn.deep + 1 ≤ x.deep := by
  cases x with
  | nm s => cases hn
  | v n => cases hn
  | l b => exact ⟨_, _, rfl, by simp only [Ix.dn, Ix.deep]; omega⟩
  | a f z => exact ⟨_, _, rfl, by simp only [Ix.dn, Ix.deep]; omega⟩
def hpV : Option (List Nat) → Val
  | none => .non
  | some p => pathV p
theorem omap_snoc (o : Option (List Nat)) (p : List Nat) : (o.map fun q => 0 :: q).map (fun q => p ++ q) = o.map fun q => (p ++ [0]) ++ q := by
  cases o <;> simp
def sp__law_head (K : PySem.W.Frag) : ASp := fun va S R _ => ∃ x : Ix, va = [x.val] ∧ x.deep ≤ 1000 ∧ R (hpV x.hdp) S
theorem pf__law_head {K : PySem.W.Frag} : ∀ va S R RE, sp__law_head K va S R RE → rd__law_head K (sp__law_is_name K) (sp__law_is_step K) (D0 R RE) (astart N__law_head va) S := by
  rintro va S R RE ⟨x, rfl, hd, ret⟩
  unfold rd__law_head
  refine cut2 (fun es S' => es = [some x.val, some (pathV []), some x.val] ∧ S = S') (fun N hN => ?_) ?_
  · simp! only []
    exact ⟨by decide, hN _ _ ⟨rfl, rfl⟩⟩
  rintro _ _ ⟨rfl, rfl⟩
  refine cut2 (fun es S' => S = S' ∧ x.hdp = none) (fun N hN => ?_) ?_
  · refine ⟨fun n es S' => ∃ (p : List Nat) (y : Ix), es = [some x.val, some (pathV p), some y.val] ∧ S = S' ∧ n = y.deep ∧ p.length + y.deep ≤ 1000 ∧ x.hdp = y.hdp.map fun q => p ++ q,
      ⟨x.deep, [], x, rfl, rfl, rfl, by simpa using hd, by cases x.hdp <;> rfl⟩, ?_⟩
    rintro n _ _ ⟨p, y, rfl, rfl, rfl, hl, hh⟩
    dsimp! only []
    refine ⟨y, rfl, ?_⟩
    cases hn : nmB y with
    | true =>
      exact hN _ _ ⟨rfl, by rw [hh, hdp_nm hn]; rfl⟩
    | false =>
      simp only [Bool.not_false, if_true]
      simp! only []
      refine ⟨y, rfl, ?_⟩
      cases hr : y.redex with
      | true =>
        dsimp only
        rw [if_pos rfl]
        have e : x.hdp = some p := by rw [hh, hdp_rx hr]; simp
        rw [e] at ret
        exact ret
      | false =>
        dsimp only
        rw [if_neg Bool.false_ne_true]
        obtain ⟨w, r, e1, e2⟩ := dn_val hn
        rw [e1]
        simp! only [pathV]
        refine ⟨by decide, by simp only [List.length_map, sizeLine]; omega, ?_⟩
        refine ⟨y.dn.deep, by omega, p ++ [0], y.dn, by simp [pathV], trivial, rfl, by simp only [List.length_append, List.length_cons, List.length_nil]; omega, ?_⟩
        rw [hh, hdp_dn hn hr, omap_snoc]
  rintro es _ ⟨rfl, e⟩
  rw [e] at ret
  simp! only []
  exact ret
def sp_head_path (K : PySem.W.Frag) : ASp := fun va S R _ => ∃ x : Ix, va = [x.val] ∧ x.deep ≤ 1000 ∧ R (hpV x.hdp) S
theorem pf_head_path {K : PySem.W.Frag} : ∀ va S R RE, sp_head_path K va S R RE → rd_head_path K (sp_is_integer K) (sp_is_redex K) (D0 R RE) (astart N_head_path va) S := by
  rintro va S R RE ⟨x, rfl, hd, ret⟩
  unfold rd_head_path
  refine cut2 (fun es S' => es = [some x.val, some (pathV [])] ∧ S = S') (fun N hN => ?_) ?_
  · simp! only []
    exact ⟨by decide, hN _ _ ⟨rfl, rfl⟩⟩
  rintro _ _ ⟨rfl, rfl⟩
  refine cut2 (fun es S' => ∃ (p : List Nat) (y : Ix), es = [some y.val, some (pathV p)] ∧ S = S' ∧ x.hdp = (if y.redex = true then some p else none)) (fun N hN => ?_) ?_
  · refine ⟨fun n es S' => ∃ (p : List Nat) (y : Ix), es = [some y.val, some (pathV p)] ∧ S = S' ∧ n = y.deep ∧ p.length + y.deep ≤ 1000 ∧ x.hdp = y.hdp.map fun q => p ++ q,
      ⟨x.deep, [], x, rfl, rfl, rfl, by simpa using hd, by cases x.hdp <;> rfl⟩, ?_⟩
    rintro n _ _ ⟨p, y, rfl, rfl, rfl, hl, hh⟩
    dsimp! only []
    refine ⟨ixTy _, ?_⟩
    cases hn : nmB y with
    | true =>
      have hx : x.hdp = if y.redex = true then some p else none := by
        rw [hh, hdp_nm hn]
        cases y with
        | nm s => rfl
        | v n => rfl
        | l b => cases hn
        | a f z => cases hn
      cases y with
      | nm s =>
        rw [show isI "str" (Ix.nm s).val S = true from rfl]
        simp only [Bool.not_true, Bool.false_eq_true, if_false]
        exact hN _ _ ⟨p, .nm s, rfl, rfl, hx⟩
      | v m =>
        rw [show isI "str" (Ix.v m).val S = false by simp [Ix.val, isI, tyV?, subTy]]
        simp only [Bool.not_false, if_true]
        refine ⟨_, rfl, ixTy _, ?_⟩
        rw [show isInt (Ix.v m).val = true from rfl]
        exact hN _ _ ⟨p, .v m, rfl, rfl, hx⟩
      | l b => cases hn
      | a f z => cases hn
    | false =>
      have h1 : isI "str" y.val S = false := by
        cases y with
        | nm s => cases hn
        | v n => cases hn
        | l b => rfl
        | a f z => rfl
      have h2 : isInt y.val = false := by
        cases y with
        | nm s => cases hn
        | v n => cases hn
        | l b => rfl
        | a f z => rfl
      rw [h1]
      simp only [Bool.not_false, if_true]
      refine ⟨_, rfl, ixTy _, ?_⟩
      rw [h2]
      simp only [Bool.not_false, if_true]
      refine ⟨y, rfl, ?_⟩
      cases hr : y.redex with
      | true =>
        simp only [Bool.not_true, Bool.false_eq_true, if_false]
        refine hN _ _ ⟨p, y, rfl, rfl, ?_⟩
        rw [hr, if_pos rfl, hh, hdp_rx hr]
        simp
      | false =>
        simp only [Bool.not_false, if_true]
        obtain ⟨w, r, e1, e2⟩ := dn_val hn
        rw [e1]
        simp! only [pathV]
        refine ⟨by decide, by simp only [List.length_map, sizeLine]; omega, ?_⟩
        refine ⟨y.dn.deep, by omega, p ++ [0], y.dn, by simp [pathV], trivial, rfl, by simp only [List.length_append, List.length_cons, List.length_nil]; omega, ?_⟩
        rw [hh, hdp_dn hn hr, omap_snoc]
  rintro _ _ ⟨p, y, rfl, rfl, e⟩
  simp! only []
  refine ⟨y, rfl, ?_⟩
  rw [e] at ret
  cases hr : y.redex with
  | true =>
    rw [hr, if_pos rfl] at ret
    exact ret
  | false =>
    rw [hr, if_neg Bool.false_ne_true] at ret
    exact ret
/-- what the law's own doing of steps at the head comes to -/
noncomputable def tld : Nat → Nat → Ix → Option (Ix × Nat)
  | 0, _, _ => none
  | n + 1, k, x => match x.hdp with
    | none => some (x, k)
    | some p => if 300 < (x.stp p).size ∨ 100 < (x.stp p).deep then none else tld n (k + 1) (x.stp p)
def tldV : Option (Ix × Nat) → Val
  | none => .non
  | some (y, k) => .tup [.str "head", y.val, .int (k : Int)]
def sp__law_told (K : PySem.W.Frag) : ASp := fun va S R _ => ∃ (x : Ix) (n : Nat), va = [x.val, .int (n : Int)] ∧ x.deep ≤ 100 ∧ n ≤ 1000 ∧ ∀ S', Ext S S' → R (tldV (tld n 0 x)) S'
theorem pf__law_told {K : PySem.W.Frag} : ∀ va S R RE, sp__law_told K va S R RE → rd__law_told K (sp__law_head K) (sp__law_step 100 K) (sp__law_size 200 K) (sp__law_deep 200 K) (D0 R RE) (astart N__law_told va) S := by
  rintro va S0 R RE ⟨x, n, rfl, hd, hn, ret⟩
  unfold rd__law_told
  refine cut2 (fun es S => ∃ o0 o2 o3, es = [o0, some (.int (n : Int)), o2, o3] ∧ Ext S0 S ∧ tld n 0 x = none) (fun N hN => ?_) ?_
  · refine for_r1 fun M hM => ?_
    dsimp! only []
    refine hM _ _ ⟨by omega, by omega⟩ ⟨fun i es S => ∃ (y : Ix) (o2 o3 : Option Val), es = [some y.val, some (.int (n : Int)), o2, o3] ∧ Ext S0 S ∧ y.deep ≤ 100 ∧ tld n 0 x = tld (n - i) i y, ⟨x, _, _, rfl, .refl _, hd, rfl⟩, ?_, ?_⟩
    · rintro i _ S hi ⟨y, o2, o3, rfl, X, hyd, ht⟩
      simp only [List.set_cons_zero, List.set_cons_succ]
      refine hide fun N2 hN2 => ?_
      obtain ⟨m, hm⟩ : ∃ m, n - i = m + 1 := ⟨n - i - 1, by omega⟩
      rw [hm] at ht
      simp! only []
      refine ⟨y, rfl, by omega, ?_⟩
      cases hp : y.hdp with
      | none =>
        rw [show isNV (hpV none) = true from rfl, if_pos rfl]
        have e : tld n 0 x = some (y, i) := by rw [ht]; simp only [tld, hp]
        rw [e] at ret
        exact ⟨by decide, ret S X⟩
      | some p =>
        rw [show isNV (hpV (some p)) = false from rfl, if_neg Bool.false_ne_true]
        obtain ⟨b, o, hb⟩ := hdp_sb y p hp
        have hsd := y.sb_deep p _ hb
        simp only [Ix.deep] at hsd
        have hsp := hdp_stps hp
        have hd2 := stp_deep hsp
        have estp : y.put p (b.opn o) = y.stp p := (stp_eq hb).symm
        refine ⟨y, b, o, p, rfl, hb, by omega, by omega, fun S1 X1 => ?_⟩
        rw [estp]
        refine ⟨y.stp p, rfl, by omega, fun S2 X2 => ?_⟩
        have X3 := (X.trans X1).trans X2
        have ee : tld (m + 1) i y = if 300 < (y.stp p).size ∨ 100 < (y.stp p).deep then none else tld m (i + 1) (y.stp p) := by simp only [tld, hp]
        refine ifD (fun h => ?_) fun h => ?_
        · have e : tld n 0 x = none := by rw [ht, ee, if_pos (.inl (by omega))]
          rw [e] at ret
          exact ret S2 X3
        · refine ⟨y.stp p, rfl, by omega, fun S3 X4 => ?_⟩
          refine ifD (fun h2 => ?_) fun h2 => ?_
          · have e : tld n 0 x = none := by rw [ht, ee, if_pos (.inr (by omega))]
            rw [e] at ret
            exact ret S3 (X3.trans X4)
          · refine hN2 _ _ ⟨y.stp p, _, _, rfl, X3.trans X4, by omega, ?_⟩
            rw [ht, ee, if_neg (by omega)]
            have e1 : n - (i + 1) = m := by omega
            rw [e1]
    · rintro _ S ⟨y, o2, o3, rfl, X, hyd, ht⟩
      refine hN _ _ ⟨_, _, _, rfl, X, ?_⟩
      rw [ht]
      have : n - (n : Int).toNat = 0 := by omega
      rw [this]
      rfl
  rintro _ S ⟨o0, o2, o3, rfl, X, e⟩
  rw [e] at ret
  simp! only []
  exact ret S X
end G

set_option Elab.async false
set_option linter.all false
set_option maxRecDepth 100000
set_option maxHeartbeats 1000000
set_option exponentiation.threshold 1000
namespace G
open PySem A3
theorem tld_inv : ∀ (n k : Nat) (x y : Ix) (j : Nat), tld n k x = some (y, j) → x.low 0 → x.good → x.size ≤ 300 → x.deep ≤ 100 → y.low 0 ∧ y.good ∧ y.size ≤ 300 ∧ y.deep ≤ 100 ∧ y.hdp = none ∧ (∀ s, s ∈ y.nms → s ∈ x.nms) ∧ j ≤ k + n ∧ k ≤ j
  | 0, k, x, y, j, h, _, _, _, _ => by simp [tld] at h
  | n + 1, k, x, y, j, h, hlo, hg, hs, hd => by
    cases hp : x.hdp with
    | none =>
      simp only [tld, hp, Option.some.injEq, Prod.mk.injEq] at h
      obtain ⟨rfl, rfl⟩ := h
      exact ⟨hlo, hg, hs, hd, hp, fun _ z => z, by omega, Nat.le_refl _⟩
    | some p =>
      simp only [tld, hp] at h
      split at h
      · cases h
      · next hc =>
        have hsp := hdp_stps hp
        obtain ⟨h1, h2, h3, h4, h5, h6, h7, h8⟩ := tld_inv n (k + 1) (x.stp p) y j h (stp_low hlo hsp) (stp_good hg hsp) (by omega) (by omega)
        exact ⟨h1, h2, h3, h4, h5, fun s hs => stp_nms hsp (h6 s hs), by omega, by omega⟩
/-- what the head's steps of a term come to, as told -/
def HO (t : Tm) (r : Val) (b : Bool) : Prop :=
  (∃ y k, tld 40 0 (t.idx []) = some (y, k) ∧ Nx 120 y ∧ r = .tup [.str "head", (namT y).val, .int (k : Int)] ∧ b = true) ∨
  (∃ p, (t.idx []).hdp = some p ∧ (t.idx []).stp p = t.idx [] ∧ r = .tup [.str "more"] ∧ b = false)
def sp_head_told (K : PySem.W.Frag) : ASp := fun va S R RE => ∃ x, va = [x] ∧ AnyV S x ∧ (isTermV x = true → ∃ (t : Tm) (r : Val) (b : Bool), x = t.val ∧ t.good = true ∧ t.size ≤ 120 ∧ t.deep ≤ 16 ∧ HO t r b ∧ ∀ S', Ext S S' → R r S') ∧ (isTermV x = false → ∀ S', Ext S S' → RE (exNoTerm K) S')
theorem pf_head_told {K : PySem.W.Frag} : ∀ va S R RE, sp_head_told K va S R RE → rd_head_told K (sp_check_term K) (sp_raw_indexed K) (sp_head_path K) (sp_raw_step K) (sp_raw_named K) (D0 R RE) (astart N_head_told va) S := by
  rintro va S0 R RE ⟨x, rfl, hx, h1, h2⟩
  unfold rd_head_told
  refine cut2 (fun es S => es = [some x, none, none] ∧ Ext S0 S ∧ isTermV x = true) (fun N hN => ?_) ?_
  · simp! only []
    exact ⟨x, rfl, hx, fun S1 X1 => ⟨fun q => hN _ _ ⟨rfl, X1, q⟩, fun q => h2 q S1 X1⟩⟩
  rintro _ S ⟨rfl, X, q⟩
  obtain ⟨t, r, b, rfl, tg, tsz, tdp, ho, ret⟩ := h1 q
  clear h1 h2 hx q
  refine cut2 (fun es S => es = [some t.val, some (t.idx []).val, some (.int 0)] ∧ Ext S0 S) (fun N hN => ?_) ?_
  · simp! only []
    exact ⟨t, rfl, by omega, fun S1 X1 => hN _ _ ⟨rfl, X.trans X1⟩⟩
  clear X S
  rintro _ S ⟨rfl, X⟩
  have hz : (t.idx []).size ≤ 300 := by rw [t.idx_size]; omega
  have hdp : (t.idx []).deep ≤ 100 := by rw [t.idx_deep]; omega
  rcases ho with ⟨y, k, e1, e2, rfl, rfl⟩ | ⟨p, e1, e2, rfl, rfl⟩
  · obtain ⟨i1, i2, i3, i4, i5, i6, i7, _⟩ := tld_inv _ _ _ _ _ e1 (t.idx_low []) (t.idx_good [] tg) hz hdp
    refine cut2 (fun es S => es = [some t.val, some y.val, some (.int (k : Int))] ∧ Ext S0 S) (fun N hN => ?_) ?_
    · refine ⟨fun n es S => ∃ (z : Ix) (j m : Nat), es = [some t.val, some z.val, some (.int (j : Int))] ∧ Ext S0 S ∧ n = m ∧ j + m = 40 ∧ tld m j z = some (y, k) ∧ z.size ≤ 300 ∧ z.deep ≤ 100, ⟨40, t.idx [], 0, 40, rfl, X, rfl, rfl, e1, hz, hdp⟩, ?_⟩
      clear X S
      rintro n _ S ⟨z, j, m, rfl, X, rfl, hjm, ht, hzs, hzd⟩
      dsimp! only []
      refine ⟨z, rfl, by omega, ?_⟩
      cases hp : z.hdp with
      | none =>
        rw [show (!isNV (hpV none)) = false from rfl]
        simp only [Bool.false_eq_true, if_false]
        cases n with
        | zero => simp [tld] at ht
        | succ n =>
          simp only [tld, hp, Option.some.injEq, Prod.mk.injEq] at ht
          obtain ⟨rfl, rfl⟩ := ht
          exact hN _ _ ⟨rfl, X⟩
      | some p =>
        rw [show (!isNV (hpV (some p))) = true from rfl]
        simp only [if_true]
        cases n with
        | zero => simp [tld] at ht
        | succ n =>
          simp only [tld, hp] at ht
          split at ht
          · cases ht
          · next hc =>
            have hsp := hdp_stps hp
            simp! only []
            rw [decide_eq_false (show ¬ (j : Int) = 300 by omega), if_neg Bool.false_ne_true]
            refine ⟨z, rfl, by omega, ?_⟩
            rw [hp]
            have e3 : (j : Int) + 1 = ((j + 1 : Nat) : Int) := by omega
            rw [e3]
            exact ⟨z, p, rfl, hsp, by omega, by omega, by omega, fun S1 X1 => ⟨n, by omega, z.stp p, j + 1, n, rfl, X.trans X1, rfl, by omega, ht, by omega, by omega⟩⟩
    clear X S
    rintro _ S ⟨rfl, X⟩
    simp! only []
    exact raw_named_call i1 (by omega) e2 fun S1 X1 => ⟨by decide, ret S1 (X.trans X1)⟩
  · refine cut2 (fun es S => False) (fun N hN => ?_) (fun _ _ h => h.elim)
    refine ⟨fun n es S => ∃ j : Nat, es = [some t.val, some (t.idx []).val, some (.int (j : Int))] ∧ Ext S0 S ∧ n = 301 - j ∧ j ≤ 300, ⟨301, 0, rfl, X, rfl, by omega⟩, ?_⟩
    clear X S
    rintro n _ S ⟨j, rfl, X, rfl, hj⟩
    have hsp := hdp_stps e1
    dsimp! only []
    refine ⟨t.idx [], rfl, by omega, ?_⟩
    rw [e1]
    dsimp only
    rw [show (!isNV (hpV (some p))) = true from rfl, if_pos rfl]
    simp! only []
    refine ifD (fun h => ⟨by decide, ret S X⟩) fun h => ?_
    refine ⟨t.idx [], rfl, by omega, ?_⟩
    rw [e1]
    have e3 : (j : Int) + 1 = ((j + 1 : Nat) : Int) := by omega
    rw [e3]
    exact ⟨t.idx [], p, rfl, hsp, by omega, by omega, by rw [e2]; omega, fun S1 X1 => ⟨301 - (j + 1), by omega, j + 1, by rw [e2], X.trans X1, rfl, by omega⟩⟩
def sp_has_head (K : PySem.W.Frag) : ASp := fun va S R RE => ∃ x, va = [x] ∧ AnyV S x ∧ (isTermV x = true → ∃ (t : Tm) (r : Val) (b : Bool), x = t.val ∧ t.good = true ∧ t.size ≤ 120 ∧ t.deep ≤ 16 ∧ HO t r b ∧ ∀ S', Ext S S' → R (.bl b) S') ∧ (isTermV x = false → ∀ S', Ext S S' → RE (exNoTerm K) S')
theorem pf_has_head {K : PySem.W.Frag} : ∀ va S R RE, sp_has_head K va S R RE → rd_has_head K (sp_head_told K) (D0 R RE) (astart N_has_head va) S := by
  rintro va S R RE ⟨x, rfl, hx, h1, h2⟩
  unfold rd_has_head
  simp! only []
  refine ⟨x, rfl, hx, fun q => ?_, h2⟩
  obtain ⟨t, r, b, rfl, tg, tsz, tdp, ho, ret⟩ := h1 q
  refine ⟨t, r, b, rfl, tg, tsz, tdp, ho, fun S1 X1 => ?_⟩
  rcases ho with ⟨y, k, e1, e2, rfl, rfl⟩ | ⟨p, e1, e2, rfl, rfl⟩
  · simp! only []
    rw [decide_eq_true trivial]
    exact ret S1 X1
  · simp! only []
    rw [show decide (Str.ofString "more" = Str.ofString "head") = false by decide +kernel]
    exact ret S1 X1
def sp_head_after (K : PySem.W.Frag) : ASp := fun va S R RE => ∃ (x : Val) (q : Addr), va = [x, .ref q] ∧ AnyV S x ∧ (isTermV x = true → ∃ (t : Tm) (ts : List Tm) (r : Val) (b : Bool), x = t.val ∧ t.good = true ∧ S q = some (.lst (ts.map Tm.val)) ∧ (∀ u, u ∈ ts → u.good = true ∧ u.size ≤ 120 ∧ u.deep ≤ 16) ∧
  (ts.foldl Tm.a t).good = true ∧ (ts.foldl Tm.a t).size ≤ 120 ∧ (ts.foldl Tm.a t).deep ≤ 16 ∧ HO (ts.foldl Tm.a t) r b ∧ ∀ S', Ext S S' → R r S') ∧ (isTermV x = false → ∀ S', Ext S S' → RE (exNoTerm K) S')
theorem pf_head_after {K : PySem.W.Frag} : ∀ va S R RE, sp_head_after K va S R RE → rd_head_after K (sp_check_term K) (sp_head_told K) (D0 R RE) (astart N_head_after va) S := by
  rintro va S0 R RE ⟨x, q, rfl, hx, h1, h2⟩
  unfold rd_head_after
  refine cut2 (fun es S => es = [some x, some (.ref q), none] ∧ Ext S0 S ∧ isTermV x = true) (fun N hN => ?_) ?_
  · simp! only []
    exact ⟨x, rfl, hx, fun S1 X1 => ⟨fun q => hN _ _ ⟨rfl, X1, q⟩, fun q => h2 q S1 X1⟩⟩
  rintro _ S ⟨rfl, X, q⟩
  obtain ⟨t, ts, r, b, rfl, tg, hq, hts, wg, wz, wd, ho, ret⟩ := h1 q
  clear h1 h2 hx q
  have hqS := X _ _ hq
  refine cut2 (fun es S => ∃ o2, es = [some (ts.foldl Tm.a t).val, some (.ref q), o2] ∧ Ext S0 S) (fun N hN => ?_) ?_
  · refine for_rest fun M hM => ?_
    dsimp! only [hqS]
    refine hM _ _ ⟨fun l es S => ∃ (u : Tm) (us : List Tm) (o2 : Option Val), es = [some u.val, some (.ref q), o2] ∧ Ext S0 S ∧ l = us.map Tm.val ∧ us.foldl Tm.a u = ts.foldl Tm.a t ∧ ∀ u, u ∈ us → u ∈ ts, ⟨t, ts, none, rfl, X, rfl, rfl, fun u hu => hu⟩, fun l es S ⟨_, _, _, _, X, _⟩ => .inl (X _ _ hq), ?_, ?_⟩
    · clear X hqS S
      rintro y l _ S ⟨u, us, o2, rfl, X, hl, hf, hin⟩
      cases us with
      | nil => cases hl
      | cons w us =>
        simp only [List.map_cons, List.cons.injEq] at hl
        obtain ⟨rfl, rfl⟩ := hl
        rw [x_name]
        simp only [List.set_cons_zero, List.set_cons_succ]
        refine hide fun N2 hN2 => ?_
        obtain ⟨w1, w2, w3⟩ := hts w (hin w List.mem_cons_self)
        have wt : isTermV w.val = true := isTermV_good w1 w3 w2
        simp! only []
        refine ⟨w.val, rfl, (w.dv (B := fun _ => False) w1).any, fun S1 X1 => ⟨fun _ => ⟨by decide, hN2 _ _ ⟨.a u w, us, _, rfl, X.trans X1, rfl, hf, fun z hz => hin z (List.mem_cons_of_mem _ hz)⟩⟩, fun z => (by rw [wt] at z; cases z)⟩⟩
    · rintro _ S ⟨u, us, o2, rfl, X, hl, hf, hin⟩
      have : us = [] := by
        cases us with
        | nil => rfl
        | cons _ _ => cases hl
      subst this
      simp only [List.foldl_nil] at hf
      subst hf
      exact hN _ _ ⟨_, rfl, X⟩
  clear X hqS S
  rintro _ S ⟨o2, rfl, X⟩
  have wt := isTermV_good wg wd wz
  simp! only []
  exact ⟨_, rfl, ((ts.foldl Tm.a t).dv (B := fun _ => False) wg).any, fun _ => ⟨ts.foldl Tm.a t, r, b, rfl, wg, wz, wd, ho, fun S1 X1 => ret S1 (X.trans X1)⟩, fun z => (by rw [wt] at z; cases z)⟩
end G

set_option Elab.async false
set_option linter.all false
set_option maxRecDepth 100000
set_option maxHeartbeats 1000000
set_option exponentiation.threshold 1000
namespace G
open PySem A3
/-! ### two things that are the same -/
inductive Same (S : Store) : Nat → Val → Val → Prop
  | non (d : Nat) : Same S (d + 1) .non .non
  | bl (d : Nat) (b : Bool) : Same S (d + 1) (.bl b) (.bl b)
  | int (d : Nat) (i : Int) : Same S (d + 1) (.int i) (.int i)
  | str (d : Nat) (s : Str) : Same S (d + 1) (.str s) (.str s)
  | tup (d : Nat) {xs ys : List Val} : xs.length = ys.length → xs.length ≤ 1000 → (∀ (i : Nat) (x y : Val), xs[i]? = some x → ys[i]? = some y → Same S d x y) → Same S (d + 1) (.tup xs) (.tup ys)
  | lst (d : Nat) {a b : Addr} {xs ys : List Val} : S a = some (.lst xs) → S b = some (.lst ys) → xs.length = ys.length → xs.length ≤ 1000 → (∀ (i : Nat) (x y : Val), xs[i]? = some x → ys[i]? = some y → Same S d x y) → Same S (d + 1) (.ref a) (.ref b)
theorem Same.ext {S S' : Store} {d : Nat} {x y : Val} (h : Same S d x y) (X : Ext S S') : Same S' d x y := by
  induction h with
  | non d => exact .non d
  | bl d b => exact .bl d b
  | int d i => exact .int d i
  | str d s => exact .str d s
  | tup d h1 h2 _ ih => exact .tup d h1 h2 ih
  | lst d a b h1 h2 _ ih => exact .lst d (X _ _ a) (X _ _ b) h1 h2 ih
theorem Same.mono {S : Store} {d : Nat} {x y : Val} (h : Same S d x y) : ∀ {e : Nat}, d ≤ e → Same S e x y := by
  induction h with
  | non d => intro e k; obtain ⟨f, rfl⟩ : ∃ f, e = f + 1 := ⟨e - 1, by omega⟩; exact .non f
  | bl d b => intro e k; obtain ⟨f, rfl⟩ : ∃ f, e = f + 1 := ⟨e - 1, by omega⟩; exact .bl f b
  | int d i => intro e k; obtain ⟨f, rfl⟩ : ∃ f, e = f + 1 := ⟨e - 1, by omega⟩; exact .int f i
  | str d s => intro e k; obtain ⟨f, rfl⟩ : ∃ f, e = f + 1 := ⟨e - 1, by omega⟩; exact .str f s
  | tup d h1 h2 _ ih => intro e k; obtain ⟨f, rfl⟩ : ∃ f, e = f + 1 := ⟨e - 1, by omega⟩; exact .tup f h1 h2 fun i x y a b => ih i x y a b (by omega)
  | lst d a b h1 h2 _ ih => intro e k; obtain ⟨f, rfl⟩ : ∃ f, e = f + 1 := ⟨e - 1, by omega⟩; exact .lst f a b h1 h2 fun i x y a b => ih i x y a b (by omega)
theorem Same.tm {S : Store} : ∀ t : Tm, Same S t.deep t.val t.val
  | .v s => .str _ s
  | .a f x => .tup _ rfl (by simp) fun i y z h1 h2 => by
    match i, h1, h2 with
    | 0, h1, h2 => cases h1; cases h2; exact (Same.str 0 "of").mono (by have := f.deep_pos; omega)
    | 1, h1, h2 => cases h1; cases h2; exact (Same.tm f).mono (by omega)
    | 2, h1, h2 => cases h1; cases h2; exact (Same.tm x).mono (by omega)
  | .l s b => .tup _ rfl (by simp) fun i y z h1 h2 => by
    have := b.deep_pos
    match i, h1, h2 with
    | 0, h1, h2 => cases h1; cases h2; exact (Same.str 0 "with").mono (by omega)
    | 1, h1, h2 => cases h1; cases h2; exact (Same.str 0 s).mono (by omega)
    | 2, h1, h2 => cases h1; cases h2; exact (Same.tm b).mono (Nat.le_refl _)
def sp__law_is (d : Nat) (K : PySem.W.Frag) : ASp := fun va S R _ => ∃ (x y : Val), va = [x, y] ∧ Same S d x y ∧ ∀ S', Ext S S' → R (.bl true) S'
theorem pf__law_is {K : PySem.W.Frag} (d : Nat) : ∀ va S R RE, sp__law_is (d + 1) K va S R RE → rd__law_is K (sp__law_is d K) (D0 R RE) (astart N__law_is va) S := by
  rintro va S R RE ⟨x, y, rfl, hs, ret⟩
  unfold rd__law_is
  cases hs with
  | non d =>
    simp! only []
    exact ret S (.refl _)
  | bl d b =>
    have ty : tyOk (Val.bl b) S := by simp [tyOk, tyV?]
    have t1 : isI "tuple" (Val.bl b) S = false := by first | rfl | simp [isI, tyV?, subTy]
    have t2 : isI "list" (Val.bl b) S = false := by first | rfl | simp [isI, tyV?, subTy]
    simp! only [isNV, t1, t2, ty, decide_true, true_and]
    exact ret S (.refl _)
  | int d i =>
    have ty : tyOk (Val.int i) S := by simp [tyOk, tyV?]
    have t1 : isI "tuple" (Val.int i) S = false := by first | rfl | simp [isI, tyV?, subTy]
    have t2 : isI "list" (Val.int i) S = false := by first | rfl | simp [isI, tyV?, subTy]
    simp! only [isNV, t1, t2, ty, decide_true, true_and]
    exact ret S (.refl _)
  | str d s =>
    have ty : tyOk (Val.str s) S := by simp [tyOk, tyV?]
    have t1 : isI "tuple" (Val.str s) S = false := by first | rfl | simp [isI, tyV?, subTy]
    have t2 : isI "list" (Val.str s) S = false := by first | rfl | simp [isI, tyV?, subTy]
    simp! only [isNV, t1, t2, ty, decide_true, true_and]
    exact ret S (.refl _)
  | tup d h1 h2 h3 =>
    rename_i xs ys
    have ty1 : tyOk (.tup xs) S := by simp [tyOk, tyV?]
    have ty2 : tyOk (.tup ys) S := by simp [tyOk, tyV?]
    have t1 : isI "tuple" (.tup xs) S = true := rfl
    have t2 : isI "tuple" (.tup ys) S = true := rfl
    have t3 : isI "list" (.tup xs) S = false := by first | rfl | simp [isI, tyV?, subTy]
    have t4 : isI "list" (.tup ys) S = false := by first | rfl | simp [isI, tyV?, subTy]
    simp! only [isNV, t1, t2, t3, t4, ty1, ty2, decide_true, true_and]
    rw [decide_eq_true (show (xs.length : Int) = (ys.length : Int) by omega), if_pos rfl]
    refine lc_pt fun M hM => ?_
    simp! only [iZip, kZip]
    refine hM _ _ (List.replicate xs.length (.bl true)) (by show (zpI xs ys).length ≤ sizeLine; rw [zpI_len]; simp only [sizeLine]; omega) (by show _ = (zpI xs ys).length; rw [zpI_len, List.length_replicate]; omega) (fun _ _ => trivial) (fun i z r S1 hz hr e Y hY => ?_) fun p S3 _ e hp => ?_
    · obtain ⟨x, y, hx, hy, rfl⟩ := zpI_get hz
      have hr' : r = .bl true := (List.mem_replicate.mp (List.mem_of_getElem? hr)).2
      subst hr'
      refine tup2 (v1 := x) (v2 := y) ?_
      simp! only []
      exact ⟨x, y, rfl, (h3 i x y hx hy).ext e, hY⟩
    · refine ⟨List.replicate xs.length true, .inl (by rw [hp, List.map_replicate]), ?_⟩
      rw [show (List.replicate xs.length true).all id = true by simp]
      exact ret S3 e
  | lst d ha hb h1 h2 h3 =>
    rename_i a b xs ys
    have ty1 : tyOk (.ref a) S := by simp [tyOk, tyV?, ha]
    have ty2 : tyOk (.ref b) S := by simp [tyOk, tyV?, hb]
    have t1 : isI "tuple" (.ref a) S = false := isInt_ref ty1 "tuple" (by decide) (by decide)
    have t2 : isI "tuple" (.ref b) S = false := isInt_ref ty2 "tuple" (by decide) (by decide)
    have t3 : isI "list" (.ref a) S = true := by simp [isI, tyV?, subTy, ha]
    have t4 : isI "list" (.ref b) S = true := by simp [isI, tyV?, subTy, hb]
    simp! only [isNV, t1, t2, t3, t4, ty1, ty2, decide_true, true_and, ha, hb]
    rw [decide_eq_true (show (xs.length : Int) = (ys.length : Int) by omega), if_pos rfl]
    refine lc_pt fun M hM => ?_
    simp! only [iZip, kZip]
    refine ⟨xs, ys, .inl ha, .inl hb, ?_⟩
    refine hM _ _ (List.replicate xs.length (.bl true)) (by show (zpI xs ys).length ≤ sizeLine; rw [zpI_len]; simp only [sizeLine]; omega) (by show _ = (zpI xs ys).length; rw [zpI_len, List.length_replicate]; omega) (fun S1 e => ⟨.inl (e _ _ ha), .inl (e _ _ hb)⟩) (fun i z r S1 hz hr e Y hY => ?_) fun p S3 _ e hp => ?_
    · obtain ⟨x, y, hx, hy, rfl⟩ := zpI_get hz
      have hr' : r = .bl true := (List.mem_replicate.mp (List.mem_of_getElem? hr)).2
      subst hr'
      refine tup2 (v1 := x) (v2 := y) ?_
      simp! only []
      exact ⟨x, y, rfl, (h3 i x y hx hy).ext e, hY⟩
    · refine ⟨List.replicate xs.length true, .inl (by rw [hp, List.map_replicate]), ?_⟩
      rw [show (List.replicate xs.length true).all id = true by simp]
      exact ret S3 e
end G

set_option Elab.async false
set_option linter.all false
set_option maxRecDepth 100000
set_option maxHeartbeats 1000000
set_option exponentiation.threshold 1000
namespace G
open PySem A3
/-! ### a drawn term, by recursion -/
def fiveS : List Str := ["a", "b", "c", "x", "y"]
theorem fiveS_names : ∀ s, s ∈ fiveS → isName s = true := by decide +kernel
def szB : Nat → Nat
  | 0 => 1
  | n + 1 => 2 * szB n + 2
theorem szB_pos : ∀ n, 1 ≤ szB n
  | 0 => Nat.le_refl _
  | n + 1 => by simp only [szB]; omega
def sp__law_term (d : Nat) (K : PySem.W.Frag) : ASp := fun va S R _ => ∃ (h p q : Addr) (ns : List Str) (n : Nat), va = [.ref h, .int (n : Int), .ref q] ∧ n + 1 ≤ d ∧ Hand S h p ∧ S q = some (.lst (ns.map .str)) ∧ q ≠ h ∧ ns.length + n ≤ 100 ∧ (∀ s, s ∈ ns → s ∈ fiveS) ∧
  ∀ (t : Tm) S', t.size ≤ szB n → t.deep ≤ 2 * n + 1 → (∀ s, s ∈ t.names → s ∈ fiveS) → DX S S' h p → R t.val S'
theorem pf__law_term {K : PySem.W.Frag} (d : Nat) : ∀ va S R RE, sp__law_term (d + 1) K va S R RE → rd__law_term K (sp__law_draw K) (sp__law_any K) (sp__law_term d K) (D0 R RE) (astart N__law_term va) S := by
  rintro va S0 R RE ⟨h, p, q, ns, n, rfl, hnd, H, hq, hqh, hln, hns, ret⟩
  unfold rd__law_term
  have x5 : ("x" : Str) ∈ fiveS := by decide +kernel
  have y5 : ("y" : Str) ∈ fiveS := by decide +kernel
  -- kind
  refine cut2 (fun es S => ∃ k : Nat, es = [some (.ref h), some (.int (n : Int)), some (.ref q), some (.int (k : Int)), none, none] ∧ DX S0 S h p ∧ (n = 0 → k = 0)) (fun N hN => ?_) ?_
  · simp! only []
    refine ifD (fun h0 => ?_) fun h0 => hN _ _ ⟨0, rfl, .refl H, fun _ => rfl⟩
    exact ⟨h, p, 7, rfl, H, by decide, by decide, fun k S1 hk hD => hN _ _ ⟨k, rfl, Drawn.dx (.refl H) hD, fun z => absurd z (by omega)⟩⟩
  rintro _ S ⟨k, rfl, D, hk0⟩
  -- name
  refine cut2 (fun es S => ∃ s : Str, es = [some (.ref h), some (.int (n : Int)), some (.ref q), some (.int (k : Int)), some (.str s), none] ∧ DX S0 S h p ∧ s ∈ fiveS) (fun N hN => ?_) ?_
  · simp! only []
    refine ⟨by decide, fun q1 hq1 => ?_⟩
    have n1 := (D.1.new hq1).1
    refine ⟨h, p, q1, _, rfl, D.1.ext (.new hq1), ups_same, n1, by simp, by simp, fun y S2 hy hD => ?_⟩
    have D2 := Drawn.dx (D.ext (.new hq1)) hD
    simp only [List.mem_cons, List.not_mem_nil, or_false] at hy
    rcases hy with rfl | rfl | rfl | rfl
    · exact hN _ _ ⟨"a", rfl, D2, by decide +kernel⟩
    · exact hN _ _ ⟨"b", rfl, D2, by decide +kernel⟩
    · exact hN _ _ ⟨"c", rfl, D2, by decide +kernel⟩
    · exact hN _ _ ⟨"x", rfl, D2, x5⟩
  clear D S
  rintro _ S ⟨s, rfl, D, hs⟩
  have hqS : S q = some (.lst (ns.map .str)) := D.2 _ _ hqh hq
  -- a name alone
  refine cut2 (fun es S' => es = [some (.ref h), some (.int (n : Int)), some (.ref q), some (.int (k : Int)), some (.str s), none] ∧ S = S' ∧ k ≠ 0) (fun N hN => ?_) ?_
  · simp! only []
    refine ifD (fun h0 => ?_) fun h0 => hN _ _ ⟨rfl, rfl, by omega⟩
    refine ⟨by decide, fun q1 hq1 => ?_⟩
    have X1 : Ext S (ups S q1 (.lst [.str "x", .str "y"])) := .new hq1
    refine ⟨_, _, X1 _ _ hqS, ups_same, by simp only [List.length_map, List.length_cons, List.length_nil, sizeLine]; omega, fun u hu => ?_⟩
    have X2 := X1.trans (.new (c := .lst (ns.map .str ++ [.str "x", .str "y"])) hu)
    have D2 := D.ext X2
    have nu : u ≠ h := ((D.ext X1).1.new hu).1
    refine ⟨h, p, u, _, rfl, D2.1, ups_same, nu, by simp, by simp; omega, fun y S2 hy hD => ?_⟩
    obtain ⟨z, hz, rfl⟩ : ∃ z : Str, z ∈ fiveS ∧ y = .str z := by
      rcases List.mem_append.mp hy with hy | hy
      · obtain ⟨z, hz, rfl⟩ := List.mem_map.mp hy
        exact ⟨z, hns z hz, rfl⟩
      · simp only [List.mem_cons, List.not_mem_nil, or_false] at hy
        rcases hy with rfl | rfl
        · exact ⟨"x", x5, rfl⟩
        · exact ⟨"y", y5, rfl⟩
    exact ret (.v z) S2 (by have := szB_pos n; simp only [Tm.size]; omega) (by simp only [Tm.deep]; omega) (fun w hw => by rw [List.mem_singleton.mp hw]; exact hz) (Drawn.dx D2 hD)
  rintro _ _ ⟨rfl, rfl, hk⟩
  obtain ⟨m, rfl⟩ : ∃ m, n = m + 1 := ⟨n - 1, by cases n with | zero => exact absurd (hk0 rfl) hk | succ m => omega⟩
  have em : ((m + 1 : Nat) : Int) - 1 = (m : Int) := by omega
  -- what stands in a body
  have body : ∀ (S1 : Store) (R1 : AK), DX S0 S1 h p → (∀ (t : Tm) S', t.size ≤ szB m → t.deep ≤ 2 * m + 1 → (∀ s, s ∈ t.names → s ∈ fiveS) → DX S0 S' h p → R1 t.val S') → ∀ p1, S1 p1 = none →
      addA (.ref q) (.ref p1) (ups S1 p1 (.lst [.str s])) fun v S2 => sp__law_term d K [.ref h, .int (m : Int), v] S2 R1 fun x S => RE x S := fun S1 R1 D1 hR p1 hp1 => by
    have X1 : Ext S1 (ups S1 p1 (.lst [.str s])) := .new hp1
    have hq1 := D1.2 _ _ hqh hq
    refine ⟨_, _, X1 _ _ hq1, ups_same, by simp only [List.length_map, List.length_cons, List.length_nil, sizeLine]; omega, fun u hu => ?_⟩
    have X2 := X1.trans (.new (c := .lst (ns.map .str ++ [.str s])) hu)
    have D2 := D1.ext X2
    refine ⟨h, p, u, ns ++ [s], m, rfl, by omega, D2.1, by rw [ups_same, List.map_append]; rfl, ((D1.ext X1).1.new hu).1, by simp; omega, fun z hz => ?_, fun t S' t1 t2 t3 D3 => hR t S' t1 t2 t3 (D2.trans D3)⟩
    rcases List.mem_append.mp hz with hz | hz
    · exact hns z hz
    · rw [List.mem_singleton.mp hz]; exact hs
  have plain : ∀ (S1 : Store) (R1 : AK), DX S0 S1 h p → (∀ (t : Tm) S', t.size ≤ szB m → t.deep ≤ 2 * m + 1 → (∀ s, s ∈ t.names → s ∈ fiveS) → DX S0 S' h p → R1 t.val S') →
      sp__law_term d K [.ref h, .int (m : Int), .ref q] S1 R1 fun x S => RE x S := fun S1 R1 D1 hR => by
    exact ⟨h, p, q, ns, m, rfl, by omega, D1.1, D1.2 _ _ hqh hq, hqh, by omega, hns, fun t S' t1 t2 t3 D3 => hR t S' t1 t2 t3 (D1.trans D3)⟩
  -- a body alone
  refine cut2 (fun es S' => es = [some (.ref h), some (.int ((m + 1 : Nat) : Int)), some (.ref q), some (.int (k : Int)), some (.str s), none] ∧ S = S') (fun N hN => ?_) ?_
  · simp! only []
    refine ifD (fun h0 => ?_) fun h0 => hN _ _ ⟨rfl, rfl⟩
    simp! only [em]
    refine ⟨by decide, body S _ D fun t S' t1 t2 t3 D3 => ⟨by decide, ret (.l s t) S' ?_ ?_ ?_ D3⟩⟩
    · simp only [Tm.size, szB]; omega
    · simp only [Tm.deep]; omega
    · intro z hz
      simp only [Tm.names, List.mem_cons] at hz
      rcases hz with rfl | hz
      · exact hs
      · exact t3 z hz
  rintro _ _ ⟨rfl, rfl⟩
  -- other
  refine cut2 (fun es S => ∃ u : Tm, es = [some (.ref h), some (.int ((m + 1 : Nat) : Int)), some (.ref q), some (.int (k : Int)), some (.str s), some u.val] ∧ DX S0 S h p ∧ u.size ≤ szB m ∧ u.deep ≤ 2 * m + 1 ∧ ∀ s, s ∈ u.names → s ∈ fiveS) (fun N hN => ?_) ?_
  · simp! only [em]
    exact plain S _ D fun t S' t1 t2 t3 D3 => hN _ _ ⟨t, rfl, D3, t1, t2, t3⟩
  clear hqS D S
  rintro _ S ⟨u, rfl, D, u1, u2, u3⟩
  refine cut2 (fun es S' => es = [some (.ref h), some (.int ((m + 1 : Nat) : Int)), some (.ref q), some (.int (k : Int)), some (.str s), some u.val] ∧ S = S') (fun N hN => ?_) ?_
  · simp! only []
    refine ifD (fun h0 => ?_) fun h0 => hN _ _ ⟨rfl, rfl⟩
    simp! only [em]
    refine plain S _ D fun t S' t1 t2 t3 D3 => ⟨by decide, ret (.a t u) S' ?_ ?_ ?_ D3⟩
    · simp only [Tm.size, szB]; omega
    · simp only [Tm.deep]; omega
    · intro z hz
      simp only [Tm.names, List.mem_append] at hz
      exact hz.elim (t3 z) (u3 z)
  rintro _ _ ⟨rfl, rfl⟩
  simp! only [em]
  refine ⟨by decide, body S _ D fun t S' t1 t2 t3 D3 => ⟨by decide, by decide, ret (.a (.l s t) u) S' ?_ ?_ ?_ D3⟩⟩
  · simp only [Tm.size, szB]; omega
  · simp only [Tm.deep]; omega
  · intro z hz
    simp only [Tm.names, List.mem_append, List.mem_cons] at hz
    rcases hz with (rfl | hz) | hz
    · exact hs
    · exact t3 z hz
    · exact u3 z hz
end G


set_option Elab.async false
set_option linter.all false
set_option maxRecDepth 100000
set_option maxHeartbeats 0
namespace G
open PySem PySem.Spec PyProof.Rows L2 A3
abbrev s_TE : Stmt := clsDef (top 1) 0
theorem sc_TE : FnScope ["self"] ["self"] (defScope s_TE) := ⟨rfl, rfl, rfl, by decide +kernel, rfl, by decide +kernel, by decide +kernel⟩
def fns : List He.DefD := [⟨("TermError", some "__init__"), "__init__", "TermError.__init__", defArgs s_TE, defBody s_TE, defScope s_TE, [], []⟩,
  ⟨("is_integer", none), "is_integer", "is_integer", defArgs s_is_integer, defBody s_is_integer, defScope s_is_integer, [], []⟩,
  ⟨("is_name", none), "is_name", "is_name", defArgs s_is_name, defBody s_is_name, defScope s_is_name, [], []⟩,
  ⟨("is_tuple", none), "is_tuple", "is_tuple", defArgs s_is_tuple, defBody s_is_tuple, defScope s_is_tuple, [], []⟩,
  ⟨("is_headed", none), "is_headed", "is_headed", defArgs s_is_headed, defBody s_is_headed, defScope s_is_headed, [], []⟩,
  ⟨("name_at", none), "name_at", "name_at", defArgs s_name_at, defBody s_name_at, defScope s_name_at, [], []⟩,
  ⟨("forms_of", none), "forms_of", "forms_of", defArgs s_forms_of, defBody s_forms_of, defScope s_forms_of, [], []⟩,
  ⟨("is_term", none), "is_term", "is_term", defArgs s_is_term, defBody s_is_term, defScope s_is_term, [], []⟩,
  ⟨("check_term", none), "check_term", "check_term", defArgs s_check_term, defBody s_check_term, defScope s_check_term, [], []⟩,
  ⟨("raw_indexed", none), "raw_indexed", "raw_indexed", defArgs s_raw_indexed, defBody s_raw_indexed, defScope s_raw_indexed, [], []⟩,
  ⟨("free_of_indexed", none), "free_of_indexed", "free_of_indexed", defArgs s_free_of_indexed, defBody s_free_of_indexed, defScope s_free_of_indexed, [], []⟩,
  ⟨("raw_named", none), "raw_named", "raw_named", defArgs s_raw_named, defBody s_raw_named, defScope s_raw_named, [], []⟩,
  ⟨("parts_of", none), "parts_of", "parts_of", defArgs s_parts_of, defBody s_parts_of, defScope s_parts_of, [], []⟩,
  ⟨("changed", none), "changed", "changed", defArgs s_changed, defBody s_changed, defScope s_changed, [], []⟩,
  ⟨("moved", none), "moved", "moved", defArgs s_moved, defBody s_moved, defScope s_moved, [], []⟩,
  ⟨("opened", none), "opened", "opened", defArgs s_opened, defBody s_opened, defScope s_opened, [], []⟩,
  ⟨("grown", none), "grown", "grown", defArgs s_grown, defBody s_grown, defScope s_grown, [], []⟩,
  ⟨("is_redex", none), "is_redex", "is_redex", defArgs s_is_redex, defBody s_is_redex, defScope s_is_redex, [], []⟩,
  ⟨("at_path", none), "at_path", "at_path", defArgs s_at_path, defBody s_at_path, defScope s_at_path, [], []⟩,
  ⟨("with_at", none), "with_at", "with_at", defArgs s_with_at, defBody s_with_at, defScope s_with_at, [], []⟩,
  ⟨("raw_step", none), "raw_step", "raw_step", defArgs s_raw_step, defBody s_raw_step, defScope s_raw_step, [], []⟩,
  ⟨("head_path", none), "head_path", "head_path", defArgs s_head_path, defBody s_head_path, defScope s_head_path, [], []⟩,
  ⟨("head_told", none), "head_told", "head_told", defArgs s_head_told, defBody s_head_told, defScope s_head_told, [], []⟩,
  ⟨("has_head", none), "has_head", "has_head", defArgs s_has_head, defBody s_has_head, defScope s_has_head, [], []⟩,
  ⟨("head_after", none), "head_after", "head_after", defArgs s_head_after, defBody s_head_after, defScope s_head_after, [], []⟩,
  ⟨("_law_hand", none), "_law_hand", "_law_hand", defArgs s__law_hand, defBody s__law_hand, defScope s__law_hand, [], []⟩,
  ⟨("_law_draw", none), "_law_draw", "_law_draw", defArgs s__law_draw, defBody s__law_draw, defScope s__law_draw, [], []⟩,
  ⟨("_law_any", none), "_law_any", "_law_any", defArgs s__law_any, defBody s__law_any, defScope s__law_any, [], []⟩,
  ⟨("_law_is", none), "_law_is", "_law_is", defArgs s__law_is, defBody s__law_is, defScope s__law_is, [], []⟩,
  ⟨("_law_word", none), "_law_word", "_law_word", defArgs s__law_word, defBody s__law_word, defScope s__law_word, [], []⟩,
  ⟨("_law_term", none), "_law_term", "_law_term", defArgs s__law_term, defBody s__law_term, defScope s__law_term, [], []⟩,
  ⟨("_law_indexed", none), "_law_indexed", "_law_indexed", defArgs s__law_indexed, defBody s__law_indexed, defScope s__law_indexed, [], []⟩,
  ⟨("_law_is_name", none), "_law_is_name", "_law_is_name", defArgs s__law_is_name, defBody s__law_is_name, defScope s__law_is_name, [], []⟩,
  ⟨("_law_free", none), "_law_free", "_law_free", defArgs s__law_free, defBody s__law_free, defScope s__law_free, [], []⟩,
  ⟨("_law_size", none), "_law_size", "_law_size", defArgs s__law_size, defBody s__law_size, defScope s__law_size, [], []⟩,
  ⟨("_law_deep", none), "_law_deep", "_law_deep", defArgs s__law_deep, defBody s__law_deep, defScope s__law_deep, [], []⟩,
  ⟨("_law_led", none), "_law_led", "_law_led", defArgs s__law_led, defBody s__law_led, defScope s__law_led, [], []⟩,
  ⟨("_law_plain", none), "_law_plain", "_law_plain", defArgs s__law_plain, defBody s__law_plain, defScope s__law_plain, [], []⟩,
  ⟨("_law_lift", none), "_law_lift", "_law_lift", defArgs s__law_lift, defBody s__law_lift, defScope s__law_lift, [], []⟩,
  ⟨("_law_put", none), "_law_put", "_law_put", defArgs s__law_put, defBody s__law_put, defScope s__law_put, [], []⟩,
  ⟨("_law_is_step", none), "_law_is_step", "_law_is_step", defArgs s__law_is_step, defBody s__law_is_step, defScope s__law_is_step, [], []⟩,
  ⟨("_law_step", none), "_law_step", "_law_step", defArgs s__law_step, defBody s__law_step, defScope s__law_step, [], []⟩,
  ⟨("_law_head", none), "_law_head", "_law_head", defArgs s__law_head, defBody s__law_head, defScope s__law_head, [], []⟩,
  ⟨("_law_told", none), "_law_told", "_law_told", defArgs s__law_told, defBody s__law_told, defScope s__law_told, [], []⟩,
  ⟨("_law_term_right", none), "_law_term_right", "_law_term_right", defArgs s__law_term_right, defBody s__law_term_right, defScope s__law_term_right, [], []⟩,
  ⟨("_law_case_right", none), "_law_case_right", "_law_case_right", defArgs s__law_case_right, defBody s__law_case_right, defScope s__law_case_right, [], []⟩,
  ⟨("law", none), "law", "law", defArgs s_law, defBody s_law, defScope s_law, [], []⟩]
def exl (K : PySem.W.Frag) : List Bool := [tyB K, noListB K, e0B K "NoTerm", exB K "NoTerm" "TermError" true, ktB K "NoTerm" (.ref (He.ga K "NoTerm")) true, ktB K "NoTerm" (.ref (He.ga K "TooMany")) false, ktB K "NoTerm" (.type "ValueError") true, decide ((He.cT K ("moved", none)).2 ≠ (He.cT K ("opened", none)).2), decide ((He.cT K ("law", none)).2 ≠ (He.cT K ("moved", none)).2), decide ((He.cT K ("law", none)).2 ≠ (He.cT K ("opened", none)).2)]
def exs (K : PySem.W.Frag) : Bool := (exl K).all id
theorem exs_at {K : PySem.W.Frag} (m : exs K = true) (i : Nat) {b : Bool} (h : (exl K)[i]? = some b := by rfl) : b = true := List.all_eq_true.mp m _ (List.mem_of_getElem? h)
def fas : List He.Fa := [.free "isinstance", .free "int", .free "bool", .free "str", .free "len", .free "all", .free "tuple", .free "sorted", .free "max", .free "enumerate", .free "abs", .free "list", .free "zip", .free "ValueError", .free "sum", .free "range", .int "LONGEST" 8, .int "MOST_DEEP" 16, .int "MOST_SIZE" 120, .int "MOST_GROWN" 2000, .int "MOST_NESTED" 200, .int "MOST_STEPS" 300, .str "SMALL" "abcdefghijklmnopqrstuvwxyz", .str "OF" "of", .str "WITH" "with", .glo "NoTerm", .glo "TermError", .glo "TooMany", .glo "is_integer", .glo "is_name", .glo "is_tuple", .glo "is_headed", .glo "name_at", .glo "forms_of", .glo "is_term", .glo "check_term", .glo "raw_indexed", .glo "free_of_indexed", .glo "raw_named", .glo "parts_of", .glo "changed", .glo "moved", .glo "opened", .glo "grown", .glo "is_redex", .glo "at_path", .glo "with_at", .glo "raw_step", .glo "head_path", .glo "head_told", .glo "has_head", .glo "head_after", .glo "_law_hand", .glo "_law_draw", .glo "_law_any", .glo "_law_is", .glo "_law_word", .glo "_law_term", .glo "_law_indexed", .glo "_law_is_name", .glo "_law_free", .glo "_law_size", .glo "_law_deep", .glo "_law_led", .glo "_law_plain", .glo "_law_lift", .glo "_law_put", .glo "_law_is_step", .glo "_law_step", .glo "_law_head", .glo "_law_told", .glo "_law_term_right", .glo "_law_case_right", .glo "law"]
def tfs : List He.Defn := [("moved", none), ("opened", none), ("law", none)]
def tbs (K : PySem.W.Frag) : Tb := [((He.cT K ("moved", none)).2, "moved.<locals>.change"), ((He.cT K ("opened", none)).2, "opened.<locals>.change"), ((He.cT K ("law", none)).2, "law.<locals>.<lambda>")]
def css (K : PySem.W.Frag) : List (Addr × Addr) := tfs.map (He.cT K)
section
variable {P : Program} {w : World} {K : PySem.W.Frag} {mg : Str → Option Value} {base h : Heap}
theorem te_of (c : He.SaysD fas fns K) (m : tyB K = true) (nV : mg "ValueError" = none) : TErr P w K mg base := by
  obtain ⟨m1, m2⟩ := tyB_ok m
  obtain ⟨fd, F⟩ := c.def_ 0 rfl
  refine ⟨⟨fd, FunD.ok F sc_TE (fun vs H Q E h => ?_) (fun cdv A outer s H vs Q E hr h => ⟨_, PSs.nox (pss_one (ps_expr (pe_veinit rfl nV m2 (pa_cons (pv 0) pa_nil)))), ?_⟩), F.bindsN (ps := ["self"]) fun _ _ _ _ _ _ us hl => match us, hl with | [_], _ => rfl⟩, m1⟩
  · obtain ⟨a, C, rfl, _⟩ := h
    rfl
  · obtain ⟨a, C, rfl, T, e, q⟩ := h
    exact ⟨_, rfl, a, C, [], rfl, Nat.zero_le _, T, e, q⟩
structure XF (K : PySem.W.Frag) : Prop where
  c_NoTerm : ExcC K (He.ga K "NoTerm")
  x_NoTerm_TermError : PySem.W.exmOne K (.ref (He.ga K "NoTerm")) (.ref (He.ga K "TermError")) = some true
  k_NoTerm_NoTerm : PySem.W.kitOne K (.ref (He.ga K "NoTerm")) (.ref (He.ga K "NoTerm")) = some true
  k_NoTerm_TooMany : PySem.W.kitOne K (.ref (He.ga K "NoTerm")) (.ref (He.ga K "TooMany")) = some false
  k_NoTerm_ValueError : PySem.W.kitOne K (.ref (He.ga K "NoTerm")) (.type "ValueError") = some true
theorem xf_of (m : exs K = true) : XF K where
  c_NoTerm := by
    have z := exs_at m 2
    unfold e0B at z
    simp only [Bool.and_eq_true] at z
    exact excB_ok z.2.2
  x_NoTerm_TermError := of_decide_eq_true (exs_at m 3)
  k_NoTerm_NoTerm := of_decide_eq_true (exs_at m 4)
  k_NoTerm_TooMany := of_decide_eq_true (exs_at m 5)
  k_NoTerm_ValueError := of_decide_eq_true (exs_at m 6)
theorem hd_of (X : K.In h) (G : h.Ns mainGlobals mg) (c : He.SaysX fas fns [] tfs exs w h K) (TB : ∀ p ∈ css K, LamX.TabB base mg p.1 p.2) : Hd P w K mg base (tbs K) := by
  have m := c.more
  exact {
    n_isinstance := He.free_ok X G (c.t.d.fact 0)
    n_int := He.free_ok X G (c.t.d.fact 1)
    n_bool := He.free_ok X G (c.t.d.fact 2)
    n_str := He.free_ok X G (c.t.d.fact 3)
    n_len := He.free_ok X G (c.t.d.fact 4)
    n_all := He.free_ok X G (c.t.d.fact 5)
    n_tuple := He.free_ok X G (c.t.d.fact 6)
    n_sorted := He.free_ok X G (c.t.d.fact 7)
    n_max := He.free_ok X G (c.t.d.fact 8)
    n_enumerate := He.free_ok X G (c.t.d.fact 9)
    n_abs := He.free_ok X G (c.t.d.fact 10)
    n_list := He.free_ok X G (c.t.d.fact 11)
    n_zip := He.free_ok X G (c.t.d.fact 12)
    n_ValueError := He.free_ok X G (c.t.d.fact 13)
    n_sum := He.free_ok X G (c.t.d.fact 14)
    n_range := He.free_ok X G (c.t.d.fact 15)
    i_LONGEST := He.int_ok X G (c.t.d.fact 16)
    i_MOST_DEEP := He.int_ok X G (c.t.d.fact 17)
    i_MOST_SIZE := He.int_ok X G (c.t.d.fact 18)
    i_MOST_GROWN := He.int_ok X G (c.t.d.fact 19)
    i_MOST_NESTED := He.int_ok X G (c.t.d.fact 20)
    i_MOST_STEPS := He.int_ok X G (c.t.d.fact 21)
    s_SMALL := He.str_ok X G (c.t.d.fact 22)
    s_OF := He.str_ok X G (c.t.d.fact 23)
    s_WITH := He.str_ok X G (c.t.d.fact 24)
    e_NoTerm := e0B_ok (exs_at m 2) (He.glo_ok X G (c.t.d.fact 25))
    g_TermError := He.glo_ok X G (c.t.d.fact 26)
    g_TooMany := He.glo_ok X G (c.t.d.fact 27)
    g_NoTerm := He.glo_ok X G (c.t.d.fact 25)
    te := te_of c.t.d (exs_at m 0) (He.free_ok X G (c.t.d.fact 13))
    D_is_integer := .of_says X G c.t.d 1 28 rfl rfl rfl
    D_is_name := .of_says X G c.t.d 2 29 rfl rfl rfl
    D_is_tuple := .of_says X G c.t.d 3 30 rfl rfl rfl
    D_is_headed := .of_says X G c.t.d 4 31 rfl rfl rfl
    D_name_at := .of_says X G c.t.d 5 32 rfl rfl rfl
    D_forms_of := .of_says X G c.t.d 6 33 rfl rfl rfl
    D_is_term := .of_says X G c.t.d 7 34 rfl rfl rfl
    D_check_term := .of_says X G c.t.d 8 35 rfl rfl rfl
    D_raw_indexed := .of_says X G c.t.d 9 36 rfl rfl rfl
    D_free_of_indexed := .of_says X G c.t.d 10 37 rfl rfl rfl
    D_raw_named := .of_says X G c.t.d 11 38 rfl rfl rfl
    D_parts_of := .of_says X G c.t.d 12 39 rfl rfl rfl
    D_changed := .of_says X G c.t.d 13 40 rfl rfl rfl
    D_moved := .of_says X G c.t.d 14 41 rfl rfl rfl
    D_opened := .of_says X G c.t.d 15 42 rfl rfl rfl
    D_grown := .of_says X G c.t.d 16 43 rfl rfl rfl
    D_is_redex := .of_says X G c.t.d 17 44 rfl rfl rfl
    D_at_path := .of_says X G c.t.d 18 45 rfl rfl rfl
    D_with_at := .of_says X G c.t.d 19 46 rfl rfl rfl
    D_raw_step := .of_says X G c.t.d 20 47 rfl rfl rfl
    D_head_path := .of_says X G c.t.d 21 48 rfl rfl rfl
    D_head_told := .of_says X G c.t.d 22 49 rfl rfl rfl
    D_has_head := .of_says X G c.t.d 23 50 rfl rfl rfl
    D_head_after := .of_says X G c.t.d 24 51 rfl rfl rfl
    D__law_hand := .of_says X G c.t.d 25 52 rfl rfl rfl
    D__law_draw := .of_says X G c.t.d 26 53 rfl rfl rfl
    D__law_any := .of_says X G c.t.d 27 54 rfl rfl rfl
    D__law_is := .of_says X G c.t.d 28 55 rfl rfl rfl
    D__law_word := .of_says X G c.t.d 29 56 rfl rfl rfl
    D__law_term := .of_says X G c.t.d 30 57 rfl rfl rfl
    D__law_indexed := .of_says X G c.t.d 31 58 rfl rfl rfl
    D__law_is_name := .of_says X G c.t.d 32 59 rfl rfl rfl
    D__law_free := .of_says X G c.t.d 33 60 rfl rfl rfl
    D__law_size := .of_says X G c.t.d 34 61 rfl rfl rfl
    D__law_deep := .of_says X G c.t.d 35 62 rfl rfl rfl
    D__law_led := .of_says X G c.t.d 36 63 rfl rfl rfl
    D__law_plain := .of_says X G c.t.d 37 64 rfl rfl rfl
    D__law_lift := .of_says X G c.t.d 38 65 rfl rfl rfl
    D__law_put := .of_says X G c.t.d 39 66 rfl rfl rfl
    D__law_is_step := .of_says X G c.t.d 40 67 rfl rfl rfl
    D__law_step := .of_says X G c.t.d 41 68 rfl rfl rfl
    D__law_head := .of_says X G c.t.d 42 69 rfl rfl rfl
    D__law_told := .of_says X G c.t.d 43 70 rfl rfl rfl
    D__law_term_right := .of_says X G c.t.d 44 71 rfl rfl rfl
    D__law_case_right := .of_says X G c.t.d 45 72 rfl rfl rfl
    D_law := .of_says X G c.t.d 46 73 rfl rfl rfl
    L_moved := TB _ (by simp [css, tfs])
    lm_moved := by simp [tbs]
    lu_moved := fun p hp e => by
      simp only [tbs, List.mem_cons, List.not_mem_nil, or_false] at hp
      rcases hp with rfl | rfl | rfl
      · rfl
      · exact absurd e.symm (of_decide_eq_true (exs_at m 7))
      · exact absurd e (of_decide_eq_true (exs_at m 8))
    L_opened := TB _ (by simp [css, tfs])
    lm_opened := by simp [tbs]
    lu_opened := fun p hp e => by
      simp only [tbs, List.mem_cons, List.not_mem_nil, or_false] at hp
      rcases hp with rfl | rfl | rfl
      · exact absurd e (of_decide_eq_true (exs_at m 7))
      · rfl
      · exact absurd e (of_decide_eq_true (exs_at m 9))
    L_law := TB _ (by simp [css, tfs])
    lm_law := by simp [tbs]
    lu_law := fun p hp e => by
      simp only [tbs, List.mem_cons, List.not_mem_nil, or_false] at hp
      rcases hp with rfl | rfl | rfl
      · exact absurd e.symm (of_decide_eq_true (exs_at m 8))
      · exact absurd e.symm (of_decide_eq_true (exs_at m 9))
      · rfl
  }
theorem dlaw (X : K.In h) (G : h.Ns mainGlobals mg) (c : He.SaysX fas fns [] tfs exs w h K) : DefA K mg "law" s_law := .of_says X G c.t.d 46 73 rfl rfl rfl
theorem tbs_css : ∀ p ∈ tbs K, ∃ q ∈ css K, q.2 = p.1 := by simp [tbs, css, tfs]
end
abbrev R : PySem.W.OpenRow := PySem.W.OpenLaw.row PySem.Challenge.rw_withterms_k19_whole_steps_at_the_head
abbrev hk : PySem.W.Hook := He.hookX 6 fas fns [] tfs exs
def ob (s : PySem.W.SharedT) : He.AlX := He.obsX 6 fas fns [] tfs exs (HandSHeadRun.getT s)
theorem ob_eq (s : PySem.W.SharedT) : ob s = hk.obs s.abs := He.obsX_eq (HandSHeadRun.getT_eq s)
def loose : List Str := ("TermError" : Str) :: ("NoTerm" : Str) :: ("TooMany" : Str) :: ("SMALL" : Str) :: ("LONGEST" : Str) :: ("is_integer" : Str) :: ("is_name" : Str) :: ("is_tuple" : Str) :: ("is_headed" : Str) :: ("name_at" : Str) :: ("OF" : Str) :: ("WITH" : Str) :: ("MOST_DEEP" : Str) :: ("MOST_SIZE" : Str) :: ("MOST_GROWN" : Str) :: ("MOST_NESTED" : Str) :: ("forms_of" : Str) :: ("is_term" : Str) :: ("check_term" : Str) :: ("raw_indexed" : Str) :: ("free_of_indexed" : Str) :: ("raw_named" : Str) :: ("parts_of" : Str) :: ("changed" : Str) :: ("moved" : Str) :: ("opened" : Str) :: ("grown" : Str) :: ("is_redex" : Str) :: ("at_path" : Str) :: ("with_at" : Str) :: ("raw_step" : Str) :: ("head_path" : Str) :: ("MOST_STEPS" : Str) :: ("head_told" : Str) :: ("has_head" : Str) :: ("head_after" : Str) :: ("_law_hand" : Str) :: ("_law_draw" : Str) :: ("_law_any" : Str) :: ("_law_is" : Str) :: ("_law_word" : Str) :: ("_law_term" : Str) :: ("_law_indexed" : Str) :: ("_law_is_name" : Str) :: ("_law_free" : Str) :: ("_law_size" : Str) :: ("_law_deep" : Str) :: ("_law_led" : Str) :: ("_law_plain" : Str) :: ("_law_lift" : Str) :: ("_law_put" : Str) :: ("_law_is_step" : Str) :: ("_law_step" : Str) :: ("_law_head" : Str) :: ("_law_told" : Str) :: ("_law_term_right" : Str) :: ("_law_case_right" : Str) :: []
theorem run (w : World) : HandSHeadRun.RunEq R (PySem.W.view R.prog [63]) hk ob 7400 loose w := by
  intro os
  kernel_rfl
end G

set_option Elab.async false
set_option linter.all false
set_option maxRecDepth 100000
set_option maxHeartbeats 1000000
namespace G
open PySem A3
theorem word_NoTerm {K : PySem.W.Frag} {C : Addr} (cC : L2.ExcC K C) (xC : PySem.W.exmOne K (.ref C) (.ref (He.ga K "TermError")) = some true)
    (k0 : PySem.W.kitOne K (.ref C) (.ref (He.ga K "NoTerm")) = some true) (k1 : PySem.W.kitOne K (.ref C) (.ref (He.ga K "TooMany")) = some false) (kV : PySem.W.kitOne K (.ref C) (.type "ValueError") = some true) {act : AE} {f : Addr} {S : Store} {D : AEnds} (P : Store → Prop)
    (hact : ∀ (E : AX) (R' : AK), (∀ S', P S' → E ⟨C, none⟩ S') → act E [some (.ref f), some (.str "!other"), none, none] S R') (hR : ∀ S' S'', P S' → Ext S' S'' → D.rt (.str "!NoTerm") S'') :
    rd__law_word K act D (astart N__law_word [.ref f]) S := by
  unfold rd__law_word
  refine cut2 (fun es S' => es = [some (.ref f), some (.str "!other"), none, none] ∧ S = S') (fun N hN => ?_) ?_
  · simp! only []
    exact hN _ _ ⟨rfl, rfl⟩
  rintro _ _ ⟨rfl, rfl⟩
  refine cut2 (fun es S2 => ∃ (o2 o3 : Option Val) (S1 : Store), es = [some (.ref f), some (.str "!NoTerm"), o2, o3] ∧ P S1 ∧ Ext S1 S2) (fun N hN => ?_) ?_
  · show sSet 1 act _ _ S
    refine hact _ _ fun S' hP => ?_
    refine ⟨true, xC, fun _ a => ?_, fun h => by cases h⟩
    show sSeq _ _ _ _ _
    refine cut2 (fun es S1 => ∃ q, es = [some (.ref f), some (.str "!other"), some (.ref a), some (.ref q)] ∧ Ext S' S1 ∧ S1 q = some (.lst [.bl true, .bl false])) (fun N hN => ?_) ?_
    · simp! only []
      exact ⟨rfl, rfl, cC, true, k0, rfl, rfl, cC, false, k1, by decide, fun q hq => hN _ _ ⟨q, rfl, .new hq, ups_same⟩⟩
    rintro _ S1 ⟨q, rfl, X, hq⟩
    simp! only [hq]
    refine ⟨trivial, ?_⟩
    simp only [countM]
    refine ⟨_, .inl hq, rfl, rfl, ?_⟩
    have e1 : (([.bl true, .bl false] : List Val).countP fun z => eqF z (.bl true)) = 1 := rfl
    rw [e1]
    simp! only []
    rw [decide_eq_true (show (((1 : Nat) : Int)) = 1 by rfl), if_pos rfl]
    refine ⟨rfl, rfl, cC, true, kV, ?_⟩
    dsimp only
    rw [if_pos rfl]
    refine ⟨by decide, fun p hp => ?_⟩
    simp! only [ups_ne (ne_of_new hq hp), hq]
    refine ⟨trivial, ?_⟩
    simp only [indexM]
    refine ⟨[.bl true, .bl false], 0, .bl true, .inl (by rw [ups_ne (ne_of_new hq hp), hq]), rfl, rfl, rfl, rfl, fun m z h e => by
      exact absurd h (by omega), ?_⟩
    have e2 : (((0 : Nat) : Int)) = 0 := rfl
    rw [e2]
    simp! only []
    exact hN _ _ ⟨_, _, _, rfl, hP, X.trans (.new hp)⟩
  rintro _ S2 ⟨o2, o3, S1, rfl, hP, X⟩
  simp! only []
  exact hR S1 S2 hP X
/-- a call that throws NoTerm, through a lambda -/
theorem lam_NoTerm {K : PySem.W.Frag} (xf : XF K) {q : Str} {act : AE} {E : AX} {es : AEnv} {S : Store} {R : AK}
    (hact : ∀ (S1 : Store) (E' : AX) (R' : AK), XC S S1 → (∀ S', Ext S1 S' → E' ⟨He.ga K "NoTerm", none⟩ S') → act E' es S1 R') (hR : ∀ S', Ext S S' → R (.str "!NoTerm") S') :
    aLam2 N__law_word q (rd__law_word K) act E es S R := by
  intro f c' σ0 hclo
  refine word_NoTerm xf.c_NoTerm xf.x_NoTerm_TermError xf.k_NoTerm_NoTerm xf.k_NoTerm_TooMany xf.k_NoTerm_ValueError (fun S' => Ext (ups S c' (.clo q es σ0)) S') (fun E' R' hE => ?_) fun S1 S2 D X => ⟨⟨_, _, X _ _ (D _ _ ups_same)⟩, hR _ fun a d e => backS_ext (c := d) (fun b u hb hu => X _ _ (D _ _ (by rw [ups_ne hb]; exact hu))) a d e⟩
  refine ⟨rfl, _, ups_same, ?_⟩
  exact hact _ _ _ (XC.clo hclo) fun S' X => hE S' X
-- XC Same namT_back isTermV_good fiveS HO tld_inv raw_named_call ne_dat eq_dat
end G

set_option Elab.async false
set_option linter.all false
set_option maxRecDepth 100000
set_option maxHeartbeats 1000000
namespace G
open PySem A3
theorem idx_extra : ∀ (t : Tm) (b : List Str) (s : Str), s ∉ (t.idx b).nms → t.idx (b ++ [s]) = t.idx b
  | .v z, b, s, h => by
    by_cases hz : z ∈ b
    · simp only [Tm.idx, if_pos hz, if_pos (List.mem_append_left [s] hz)]
      rw [List.idxOf_append, if_pos hz]
    · simp only [Tm.idx, if_neg hz] at h ⊢
      have hne : z ≠ s := fun e => h (by rw [e]; simp [Ix.nms])
      rw [if_neg (by simp [hz, hne])]
  | .a f x, b, s, h => by
    simp only [Tm.idx, Ix.nms, List.mem_append, not_or] at h
    simp only [Tm.idx, idx_extra f b s h.1, idx_extra x b s h.2]
  | .l z c, b, s, h => by
    simp only [Tm.idx, Ix.nms] at h
    simp only [Tm.idx]
    rw [← idx_extra c (z :: b) s h]
    rfl
/-- the due of a head -/
def dueV (y : Ix) (k : Nat) : Val := .tup [.str "head", (namT y).val, .int (k : Int)]
def dueD (y : Ix) (k : Nat) : PyData := .tuple [.str "head", (namT y).dat, .int (k : Int)]
theorem due_drel {S : Store} (y : Ix) (k : Nat) : DRel S (dueV y k) (dueD y k) := .tup (.cons (.str _) (.cons (Tm.drel _) (.cons (.int _) .nil)))
theorem due_lay {y : Ix} {k : Nat} (g : (namT y).good = true) : (dueD y k).canLay0 = true ∧ (dueD y k).depth ≤ (namT y).deep + 1 := by
  obtain ⟨h1, h2⟩ := (namT y).lay g
  have h3 : PyData.canLay0 (.str "head") = true := by decide +kernel
  have h4 : PyData.canLay0 (.int (k : Int)) = true := by simp [PyData.canLay0]
  refine ⟨by simp only [dueD, PyData.canLay0, PyData.canLayAll0] at *; simp [h1, h3], ?_⟩
  simp only [dueD, PyData.depth, PyData.depthAll]
  omega
theorem due_eqv (y : Ix) (k : Nat) : PyData.eqv (dueD y k) (dueD y k) = true := by
  have h := (Tm.eqv_iff (namT y) (namT y)).mpr rfl
  simp only [dueD, PyData.eqv, PyData.eqvAll, h]
  simp
theorem namT_deep (y : Ix) : (namT y).deep = y.deep := by rw [namT, Ix.nmF_deep]
theorem namT_size (y : Ix) : (namT y).size = y.size := by rw [namT, Ix.nmF_size]
theorem ne_due {S : Store} {R : AK} {y : Ix} {k : Nat} (g : (namT y).good = true) (d : y.deep ≤ 110) (h : R (.bl false) S) : neW (dueV y k) (dueV y k) S R := by
  obtain ⟨h1, h2⟩ := due_lay (k := k) g
  rw [namT_deep] at h2
  have w : wideD (dueD y k) = true := by
    unfold wideD
    rw [h1, decide_eq_true (by omega)]
    rfl
  show ∃ d e, DRel S _ d ∧ DRel S _ e ∧ wideD d = true ∧ wideD e = true ∧ R (.bl (!PyData.eqv d e)) S
  exact ⟨_, _, due_drel y k, due_drel y k, w, w, by rw [due_eqv]; exact h⟩
theorem eq_due {S : Store} {R : AK} {y : Ix} {k : Nat} (g : (namT y).good = true) (d : y.deep ≤ 60) (h : R (.bl true) S) : eqA (dueV y k) (dueV y k) S R := by
  obtain ⟨h1, h2⟩ := due_lay (k := k) g
  rw [namT_deep] at h2
  have w : SeqAt.shaped (dueD y k) = true := by
    unfold SeqAt.shaped
    rw [h1, decide_eq_true (by omega)]
    rfl
  exact eq_dat (due_drel y k) (due_drel y k) w w (by rw [due_eqv]; exact h)
theorem same_due {S : Store} (y : Ix) (k : Nat) : Same S (y.deep + 1) (dueV y k) (dueV y k) := by
  have h0 : 1 ≤ y.deep := y.deep_pos'
  refine .tup _ rfl (by simp) fun i a b h1 h2 => ?_
  match i, h1, h2 with
  | 0, h1, h2 => cases h1; cases h2; exact (Same.str 0 "head").mono h0
  | 1, h1, h2 => cases h1; cases h2; exact (Same.tm (namT y)).mono (by rw [namT_deep]; omega)
  | 2, h1, h2 => cases h1; cases h2; exact (Same.int 0 _).mono h0
theorem nx_five {y : Ix} {n : Nat} (h : ∀ s, s ∈ y.nms → s ∈ fiveS) (d : y.deep ≤ 110) : Nx 120 y := ⟨fiveS, h, by simp only [fiveS, List.length_cons, List.length_nil]; omega, by decide⟩
def sp__law_term_right (K : PySem.W.Frag) : ASp := fun va S R _ => ∃ t : Tm, va = [t.val, (t.idx []).val] ∧ t.size ≤ 120 ∧ t.deep ≤ 16 ∧ (∀ s, s ∈ t.names → s ∈ fiveS) ∧ ∀ S', Ext S S' → R (.bl true) S'
theorem pf__law_term_right {K : PySem.W.Frag} : ∀ va S R RE, sp__law_term_right K va S R RE → rd__law_term_right K (sp__law_told K) (sp__law_plain K) (sp_has_head K) (sp_head_told K) (sp__law_is 120 K) (sp__law_size 200 K) (sp__law_deep 200 K) (D0 R RE) (astart N__law_term_right va) S := by
  rintro va S0 R RE ⟨t, rfl, tz, td, tn, ret⟩
  unfold rd__law_term_right
  have tg : t.good = true := t.good_of fun s z => fiveS_names s (tn s z)
  have xn : ∀ s, s ∈ (t.idx []).nms → s ∈ fiveS := fun s z => tn s (t.idx_names [] s z)
  have xz := t.idx_size []
  have xd := t.idx_deep []
  have xlo := t.idx_low []
  have xg := t.idx_good [] tg
  generalize hx : t.idx [] = x at xn xz xd xlo xg ⊢
  refine cut2 (fun es S => es = [some t.val, some x.val, some (tldV (tld 40 0 x)), none, none] ∧ Ext S0 S) (fun N hN => ?_) ?_
  · simp! only []
    exact ⟨x, 40, rfl, by omega, by decide, fun S1 X1 => hN _ _ ⟨rfl, X1⟩⟩
  rintro _ S ⟨rfl, X⟩
  cases ht : tld 40 0 x with
  | none =>
    simp! only [tldV]
    exact ret S X
  | some e =>
    obtain ⟨y, k⟩ := e
    obtain ⟨ylo, yg, yz, yd, yh, ynm, yk, _⟩ := tld_inv _ _ _ _ _ ht xlo xg (by omega) (by omega)
    have ynm : ∀ s, s ∈ y.nms → s ∈ fiveS := fun s z => xn s (ynm s z)
    have ynx : Nx 120 y := nx_five (n := 0) ynm (by omega)
    have ng := namT_good yg ylo ynx
    have ho : HO t (dueV y k) true := .inl ⟨y, k, by rw [hx]; exact ht, ynx, rfl, rfl⟩
    have tany : ∀ S', AnyV S' t.val := fun S' => (t.dv (B := fun _ => False) tg).any
    have tt := isTermV_good tg td tz
    have no : ∀ {P : Prop}, isTermV t.val = false → P := fun z => by rw [tt] at z; cases z
    refine cut2 (fun es S => es = [some t.val, some x.val, some (tldV (some (y, k))), none, none] ∧ Ext S0 S) (fun N hN => ?_) ?_
    · simp! only [tldV]
      exact hN _ _ ⟨rfl, X⟩
    clear X S
    rintro _ S ⟨rfl, X⟩
    refine cut2 (fun es S => es = [some t.val, some x.val, some (tldV (some (y, k))), some (dueV y k), none] ∧ Ext S0 S) (fun N hN => ?_) ?_
    · simp! only [tldV]
      refine ⟨y, rfl, ylo, by omega, by omega, ynx, fun S1 X1 => ⟨by decide, hN _ _ ⟨rfl, X.trans X1⟩⟩⟩
    clear X S
    rintro _ S ⟨rfl, X⟩
    -- told
    refine cut2 (fun es S => es = [some t.val, some x.val, some (tldV (some (y, k))), some (dueV y k), none] ∧ Ext S0 S) (fun N hN => ?_) ?_
    · simp! only []
      refine ⟨t.val, rfl, tany _, fun _ => ⟨t, _, true, rfl, tg, tz, td, ho, fun S1 X1 => ⟨t.val, rfl, tany _, fun _ => ⟨t, _, true, rfl, tg, tz, td, ho, fun S2 X2 => ⟨by decide, fun q1 hq1 => ⟨by decide, fun q2 hq2 => ?_⟩⟩⟩, fun z => no z⟩⟩, fun z => no z⟩
      have X3 : Ext S2 (ups S2 q1 (.lst [dueV y k, .bl true])) := .new hq1
      have X4 := X3.trans (.new (c := .lst [dueV y k, .bl true]) hq2)
      have h12 : q1 ≠ q2 := ne_of_new ups_same hq2
      refine ⟨.ref q1, .ref q2, rfl, ?_, fun S3 X5 => ?_⟩
      · refine .lst 119 (xs := [dueV y k, .bl true]) (ys := [dueV y k, .bl true]) (by rw [ups_ne h12, ups_same]) ups_same rfl (by simp) fun i a b h1 h2 => ?_
        match i, h1, h2 with
        | 0, h1, h2 => cases h1; cases h2; exact (same_due y k).mono (by omega)
        | 1, h1, h2 => cases h1; cases h2; exact .bl 118 true
      · simp only [Bool.not_true, Bool.false_eq_true, if_false]
        exact hN _ _ ⟨rfl, (((X.trans X1).trans X2).trans X4).trans X5⟩
    clear X S
    rintro _ S ⟨rfl, X⟩
    -- the plain one
    have xnx : Nx 120 x := nx_five (n := 0) xn (by omega)
    have pg := namT_good xg xlo xnx
    have pb := namT_back xlo xnx
    have ho2 : HO (namT x) (dueV y k) true := .inl ⟨y, k, by rw [pb]; exact ht, ynx, rfl, rfl⟩
    have pz : (namT x).size ≤ 120 := by rw [namT_size]; omega
    have pd : (namT x).deep ≤ 16 := by rw [namT_deep]; omega
    have pt := isTermV_good pg pd pz
    refine cut2 (fun es S => es = [some t.val, some x.val, some (tldV (some (y, k))), some (dueV y k), none] ∧ Ext S0 S) (fun N hN => ?_) ?_
    · simp! only []
      refine ⟨x, rfl, xlo, by omega, by omega, xnx, fun S1 X1 => ⟨(namT x).val, rfl, ((namT x).dv (B := fun _ => False) pg).any, fun _ => ⟨namT x, _, true, rfl, pg, pz, pd, ho2, fun S2 X2 => ne_due ng (by omega) ?_⟩, fun z => (by rw [pt] at z; cases z)⟩⟩
      dsimp only
      rw [if_neg Bool.false_ne_true]
      exact hN _ _ ⟨rfl, (X.trans X1).trans X2⟩
    clear X S
    rintro _ S ⟨rfl, X⟩
    -- small ones
    refine cut2 (fun es S => es = [some t.val, some x.val, some (tldV (some (y, k))), some (dueV y k), none] ∧ Ext S0 S ∧ y.size ≤ 55 ∧ y.deep ≤ 15) (fun N hN => ?_) ?_
    · simp! only [tldV]
      refine ⟨y, rfl, by omega, fun S1 X1 => ifD (fun _ => ret S1 (X.trans X1)) fun g1 => ⟨y, rfl, by omega, fun S2 X2 => ifD (fun _ => ret S2 ((X.trans X1).trans X2)) fun g2 => hN _ _ ⟨rfl, (X.trans X1).trans X2, by omega, by omega⟩⟩⟩
    clear X S
    rintro _ S ⟨rfl, X, yz2, yd2⟩
    have bk := namT_back ylo ynx
    have qn : ("q" : Str) ∉ y.nms := fun z => absurd (ynm _ z) (by decide +kernel)
    have ub : (Tm.l "q" (namT y)).idx [] = .l y := by
      show Ix.l ((namT y).idx ["q"]) = _
      have := idx_extra (namT y) [] "q" (by rw [bk]; exact qn)
      rw [List.nil_append] at this
      rw [this, bk]
    have ug : (Tm.l "q" (namT y)).good = true := by
      have : isName "q" = true := by decide +kernel
      simp only [Tm.good, this, ng]
      rfl
    have uz : (Tm.l "q" (namT y)).size ≤ 120 := by simp only [Tm.size, namT_size]; omega
    have ud : (Tm.l "q" (namT y)).deep ≤ 16 := by simp only [Tm.deep, namT_deep]; omega
    have unx : Nx 120 (.l y) := ⟨fiveS, ynm, by simp only [Ix.deep, fiveS, List.length_cons, List.length_nil]; omega, by decide⟩
    have uho : HO (.l "q" (namT y)) (dueV (.l y) 0) true := .inl ⟨.l y, 0, by rw [ub]; simp only [tld, Ix.hdp, yh]; rfl, unx, rfl, rfl⟩
    have nz : (namT y).size ≤ 120 := by rw [namT_size]; omega
    have nd : (namT y).deep ≤ 16 := by rw [namT_deep]; omega
    have nho : HO (namT y) (dueV y 0) true := .inl ⟨y, 0, by rw [bk]; simp only [tld, yh], ynx, rfl, rfl⟩
    refine cut2 (fun es S => es = [some t.val, some x.val, some (tldV (some (y, k))), some (dueV y k), some (dueV (.l y) 0)] ∧ Ext S0 S) (fun N hN => ?_) ?_
    · simp! only [dueV]
      refine ⟨by decide, (Tm.l "q" (namT y)).val, rfl, ((Tm.l "q" (namT y)).dv (B := fun _ => False) ug).any, fun _ => ⟨_, _, true, rfl, ug, uz, ud, uho, fun S1 X1 => hN _ _ ⟨rfl, X.trans X1⟩⟩, fun z => (by rw [isTermV_good ug ud uz] at z; cases z)⟩
    clear X S
    rintro _ S ⟨rfl, X⟩
    simp! only [dueV]
    refine ⟨(namT y).val, rfl, ((namT y).dv (B := fun _ => False) ng).any, fun _ => ⟨_, _, true, rfl, ng, nz, nd, nho, fun S1 X1 => ⟨by decide, eq_due ng (by omega) ?_⟩⟩, fun z => (by rw [isTermV_good ng nd nz] at z; cases z)⟩
    simp! only []
    rw [decide_eq_true trivial, if_pos rfl]
    exact ret S1 (X.trans X1)
theorem lc_drawB {h p : Addr} {b : AE} {j : Nat} {te : AE} {vs : List Nat} {E : AX} {es : AEnv} {S S0 : Store} {R : AK} (P : Val → Prop) (m : Nat) (hm : m < 1000) (X : DX S0 S h p)
    (hb : ∀ N : Val → Store → Prop, (∀ (n : Nat) S1, n ≤ m → DX S S1 h p → N (.int (n : Int)) S1) → b E es S N)
    (step : ∀ (i : Nat) (S1 : Store), DX S0 S1 h p → ∀ Y : Val → Store → Prop, (∀ y S2, P y → DX S1 S2 h p → Y y S2) → te X0 ((awipe es vs).set j (some (.int (i : Int)))) S1 Y)
    (fin : ∀ q S1 (ys : List Val), S0 q = none → q ≠ h → DX S0 S1 h p → S1 q = some (.lst ys) → ys.length ≤ m → (∀ y, y ∈ ys → P y) → R (.ref q) S1) :
    aLc (iR1 b) (tName j) aYes te vs E es S R := by
  unfold aLc
  rw [x_rng1]
  refine hb _ fun n S1 hn XX => ?_
  have X := X.trans XX
  refine ⟨by omega, by omega, fun q hq => ?_⟩
  have hq0 := X.none hq
  obtain ⟨nh, np⟩ := X.1.new hq
  refine ⟨fun i S1 => i ≤ n ∧ DX S0 S1 h p ∧ ∃ acc, S1 q = some (.lst acc) ∧ acc.length = i ∧ ∀ y, y ∈ acc → P y, ⟨Nat.zero_le _, X.put hq0 nh np, [], ups_same, rfl, fun y hy => by cases hy⟩, fun i S1 ⟨hi, X1, acc, h1, h2, h3⟩ => ⟨trivial, fun x hx => ?_, fun hi2 => ?_⟩⟩
  · obtain ⟨rfl, hlt⟩ := rgI_at hx
    rw [Int.zero_add, x_name]
    rw [x_yes]
    dsimp only
    rw [if_pos rfl]
    refine step i S1 X1 _ fun y S2 hy X2 => ?_
    refine ⟨acc, X2.2 q _ nh h1, by simp only [sizeLine]; omega, by omega, (X1.trans X2).put hq0 nh np, acc ++ [y], ups_same, by simp [h2], fun z hz => ?_⟩
    rcases List.mem_append.mp hz with hz | hz
    · exact h3 z hz
    · rw [List.mem_singleton.mp hz]; exact hy
  · have hl : (rgI 0 (n : Int)).length = n := by simp [rgI]
    dsimp only at hi2
    rw [hl] at hi2
    exact fin q S1 acc hq0 nh X1 h1 (by omega) h3
theorem DX.exts {S S' S2 : Store} {h p : Addr} (D : DX S S' h p) (X : Ext S' S2) : DX S S2 h p := D.ext X
/-- what the given ones are -/
def Gv (y : Val) : Prop := ∃ u : Tm, y = u.val ∧ u.size ≤ 10 ∧ u.deep ≤ 5 ∧ ∀ s, s ∈ u.names → s ∈ fiveS
theorem gv_list : ∀ ys : List Val, (∀ y, y ∈ ys → Gv y) → ∃ ts : List Tm, ys = ts.map Tm.val ∧ ∀ u, u ∈ ts → u.size ≤ 10 ∧ u.deep ≤ 5 ∧ ∀ s, s ∈ u.names → s ∈ fiveS
  | [], _ => ⟨[], rfl, fun u hu => by cases hu⟩
  | y :: ys, h => by
    obtain ⟨u, rfl, h1⟩ := h y List.mem_cons_self
    obtain ⟨ts, rfl, h2⟩ := gv_list ys fun z hz => h z (List.mem_cons_of_mem _ hz)
    refine ⟨u :: ts, rfl, fun z hz => ?_⟩
    rcases List.mem_cons.mp hz with rfl | hz
    · exact h1
    · exact h2 z hz
theorem fold_tm : ∀ (ts : List Tm) (t : Tm), (∀ u, u ∈ ts → u.size ≤ 10 ∧ u.deep ≤ 5 ∧ ∀ s, s ∈ u.names → s ∈ fiveS) → (∀ s, s ∈ t.names → s ∈ fiveS) → 5 ≤ t.deep → (ts.foldl Tm.a t).size ≤ t.size + 11 * ts.length ∧ (ts.foldl Tm.a t).deep ≤ t.deep + ts.length ∧ (∀ s, s ∈ (ts.foldl Tm.a t).names → s ∈ fiveS)
  | [], t, _, hn, _ => ⟨by simp, by simp, hn⟩
  | u :: ts, t, h, hn, hd => by
    obtain ⟨u1, u2, u3⟩ := h u List.mem_cons_self
    obtain ⟨h1, h2, h3⟩ := fold_tm ts (.a t u) (fun z hz => h z (List.mem_cons_of_mem _ hz)) (fun s hs => by
      simp only [Tm.names, List.mem_append] at hs
      exact hs.elim (hn s) (u3 s)) (by simp only [Tm.deep]; omega)
    simp only [Tm.size, Tm.deep] at h1 h2
    refine ⟨by simp only [List.foldl_cons, List.length_cons]; omega, by simp only [List.foldl_cons, List.length_cons]; omega, h3⟩
theorem fold_dp : ∀ (ts : List Tm) (t : Tm), (∀ u, u ∈ ts → u.deep ≤ 5) → (ts.foldl Tm.a t).deep ≤ max t.deep 5 + ts.length
  | [], t, _ => by simp; omega
  | u :: ts, t, h => by
    have h1 := h u List.mem_cons_self
    have h2 := fold_dp ts (.a t u) fun z hz => h z (List.mem_cons_of_mem _ hz)
    simp only [Tm.deep] at h2
    simp only [List.foldl_cons, List.length_cons]
    omega
theorem fold_sz : ∀ (ts : List Tm) (t : Tm), (∀ u, u ∈ ts → u.size ≤ 10) → (ts.foldl Tm.a t).size ≤ t.size + 11 * ts.length
  | [], t, _ => by simp
  | u :: ts, t, h => by
    have h1 := h u List.mem_cons_self
    have h2 := fold_sz ts (.a t u) fun z hz => h z (List.mem_cons_of_mem _ hz)
    simp only [Tm.size] at h2
    simp only [List.foldl_cons, List.length_cons]
    omega
theorem fold_nm : ∀ (ts : List Tm) (t : Tm), (∀ u, u ∈ ts → ∀ s, s ∈ u.names → s ∈ fiveS) → (∀ s, s ∈ t.names → s ∈ fiveS) → ∀ s, s ∈ (ts.foldl Tm.a t).names → s ∈ fiveS
  | [], t, _, h => h
  | u :: ts, t, h, hn => fold_nm ts (.a t u) (fun z hz => h z (List.mem_cons_of_mem _ hz)) fun s hs => by
    simp only [Tm.names, List.mem_append] at hs
    exact hs.elim (hn s) (h u List.mem_cons_self s)
def sp__law_case_right (K : PySem.W.Frag) : ASp := fun va S R _ => ∃ h p : Addr, va = [.ref h] ∧ Hand S h p ∧ ∀ S', DX S S' h p → R (.bl true) S'
theorem pf__law_case_right {K : PySem.W.Frag} : ∀ va S R RE, sp__law_case_right K va S R RE → rd__law_case_right K (sp__law_term 5 K) (sp__law_indexed 110 K) (sp__law_size 200 K) (sp__law_term_right K) (sp__law_draw K) (sp__law_told K) (sp__law_plain K) (sp_head_after K) (sp__law_is 120 K) (D0 R RE) (astart N__law_case_right va) S := by
  rintro va S0 R RE ⟨h, p, rfl, H0, ret⟩
  unfold rd__law_case_right
  -- term
  refine cut2 (fun es S => ∃ t : Tm, es = [some (.ref h), some t.val, none, none, none, none, none, none] ∧ DX S0 S h p ∧ t.size ≤ 46 ∧ t.deep ≤ 9 ∧ ∀ s, s ∈ t.names → s ∈ fiveS) (fun N hN => ?_) ?_
  · simp! only []
    refine ⟨by decide, fun q hq => ?_⟩
    have D1 := (DX.refl H0).exts (.new (c := .lst []) hq)
    exact ⟨h, p, q, [], 4, rfl, by decide, D1.1, ups_same, (H0.new hq).1, by decide, fun s hs => (by cases hs), fun t S' t1 t2 t3 D2 => hN _ _ ⟨t, rfl, D1.trans D2, t1, t2, t3⟩⟩
  rintro _ S ⟨t, rfl, D, tz, td, tn⟩
  have tg : t.good = true := t.good_of fun s z => fiveS_names s (tn s z)
  -- part
  refine cut2 (fun es S => es = [some (.ref h), some t.val, some (t.idx []).val, none, none, none, none, none] ∧ DX S0 S h p) (fun N hN => ?_) ?_
  · simp! only []
    refine ⟨by decide, fun q hq => ?_⟩
    exact ⟨t, q, [], rfl, ups_same, by omega, by simp; omega, fun S1 X1 => hN _ _ ⟨rfl, D.exts ((Ext.new hq).trans X1)⟩⟩
  clear D S
  rintro _ S ⟨rfl, D⟩
  refine cut2 (fun es S => es = [some (.ref h), some t.val, some (t.idx []).val, none, none, none, none, none] ∧ DX S0 S h p ∧ t.size ≤ 40) (fun N hN => ?_) ?_
  · simp! only []
    refine ⟨t.idx [], rfl, by rw [t.idx_deep]; omega, fun S1 X1 => ifD (fun _ => ret S1 (D.exts X1)) fun g => hN _ _ ⟨rfl, D.exts X1, by rw [t.idx_size] at g; omega⟩⟩
  clear D S
  rintro _ S ⟨rfl, D, tz⟩
  refine cut2 (fun es S => es = [some (.ref h), some t.val, some (t.idx []).val, none, none, none, none, none] ∧ DX S0 S h p) (fun N hN => ?_) ?_
  · simp! only []
    refine ⟨t, rfl, by omega, by omega, tn, fun S1 X1 => ?_⟩
    simp only [Bool.not_true, Bool.false_eq_true, if_false]
    exact hN _ _ ⟨rfl, D.exts X1⟩
  clear D S
  rintro _ S ⟨rfl, D⟩
  -- given
  refine cut2 (fun es S => ∃ (q : Addr) (ts : List Tm), es = [some (.ref h), some t.val, some (t.idx []).val, some (.ref q), none, none, none, none] ∧ DX S0 S h p ∧ q ≠ h ∧ S q = some (.lst (ts.map Tm.val)) ∧ ts.length ≤ 2 ∧ ∀ u, u ∈ ts → u.size ≤ 10 ∧ u.deep ≤ 5 ∧ ∀ s, s ∈ u.names → s ∈ fiveS) (fun N hN => ?_) ?_
  · rw [x_set]
    refine lc_drawB (h := h) (p := p) (S0 := S0) Gv 2 (by decide) D (fun N hN => ?_) (fun i S1 D1 Y hY => ?_) fun q S1 ys q0 qh D1 hq hl hy => ?_
    · dsimp! only []
      exact ⟨h, p, 3, rfl, D.1, by decide, by decide, fun n S1 hn hD => hN n S1 (by omega) (Drawn.dx (.refl D.1) hD)⟩
    · simp! only []
      refine ⟨by decide, fun q hq => ?_⟩
      have D2 := (DX.refl D1.1).exts (.new (c := .lst []) hq)
      exact ⟨h, p, q, [], 2, rfl, by decide, D2.1, ups_same, (D1.1.new hq).1, by decide, fun s hs => (by cases hs), fun u S' u1 u2 u3 D3 => hY _ _ ⟨u, rfl, u1, u2, u3⟩ (D2.trans D3)⟩
    · obtain ⟨ts, rfl, hts⟩ := gv_list ys hy
      exact hN _ _ ⟨q, ts, rfl, D1, qh, hq, by simpa using hl, hts⟩
  clear D S
  rintro _ S ⟨q, ts, rfl, D, qh, hq, hl, hts⟩
  -- whole
  refine cut2 (fun es S' => es = [some (.ref h), some t.val, some (t.idx []).val, some (.ref q), some t.val, none, none, none] ∧ S = S') (fun N hN => ?_) ?_
  · simp! only []
    exact hN _ _ ⟨rfl, rfl⟩
  rintro _ _ ⟨rfl, rfl⟩
  refine cut2 (fun es S' => ∃ o5, es = [some (.ref h), some t.val, some (t.idx []).val, some (.ref q), some (ts.foldl Tm.a t).val, o5, none, none] ∧ S = S') (fun N hN => ?_) ?_
  · refine for_rest fun M hM => ?_
    dsimp! only [hq]
    refine hM _ _ ⟨fun l es S' => ∃ (u : Tm) (us : List Tm) (o5 : Option Val), es = [some (.ref h), some t.val, some (t.idx []).val, some (.ref q), some u.val, o5, none, none] ∧ S = S' ∧ l = us.map Tm.val ∧ us.foldl Tm.a u = ts.foldl Tm.a t, ⟨t, ts, none, rfl, rfl, rfl, rfl⟩, fun l es S' ⟨_, _, _, _, e, _⟩ => .inl (e ▸ hq), ?_, ?_⟩
    · rintro y l _ _ ⟨u, us, o5, rfl, rfl, hl, hf⟩
      cases us with
      | nil => cases hl
      | cons w us =>
        simp only [List.map_cons, List.cons.injEq] at hl
        obtain ⟨rfl, rfl⟩ := hl
        rw [x_name]
        simp only [List.set_cons_zero, List.set_cons_succ]
        simp! only []
        exact ⟨by decide, .a u w, us, _, rfl, trivial, rfl, hf⟩
    · rintro _ _ ⟨u, us, o5, rfl, rfl, hl, hf⟩
      have : us = [] := by
        cases us with
        | nil => rfl
        | cons _ _ => cases hl
      subst this
      simp only [List.foldl_nil] at hf
      subst hf
      exact hN _ _ ⟨_, rfl, rfl⟩
  rintro _ _ ⟨o5, rfl, rfl⟩
  have wz := fold_sz ts t fun u hu => (hts u hu).1
  have wd := fold_dp ts t fun u hu => (hts u hu).2.1
  have wn := fold_nm ts t (fun u hu => (hts u hu).2.2) tn
  generalize hw : ts.foldl Tm.a t = w at wz wd wn ⊢
  have wg : w.good = true := w.good_of fun s z => fiveS_names s (wn s z)
  have xn : ∀ s, s ∈ (w.idx []).nms → s ∈ fiveS := fun s z => wn s (w.idx_names [] s z)
  have xz := w.idx_size []
  have xd := w.idx_deep []
  -- own
  refine cut2 (fun es S => es = [some (.ref h), some t.val, some (t.idx []).val, some (.ref q), some w.val, o5, some (tldV (tld 40 0 (w.idx []))), none] ∧ DX S0 S h p ∧ S q = some (.lst (ts.map Tm.val))) (fun N hN => ?_) ?_
  · simp! only []
    refine ⟨by decide, fun q1 hq1 => ?_⟩
    exact ⟨w, q1, [], rfl, ups_same, by omega, by simp; omega, fun S1 X1 => ⟨w.idx [], 40, rfl, by omega, by decide, fun S2 X2 => hN _ _ ⟨rfl, D.exts (((Ext.new hq1).trans X1).trans X2), X2 _ _ (X1 _ _ ((Ext.new hq1) _ _ hq))⟩⟩⟩
  clear D hq S
  rintro _ S ⟨rfl, D, hq⟩
  cases ht : tld 40 0 (w.idx []) with
  | none =>
    simp! only [tldV]
    exact ret S D
  | some e =>
    obtain ⟨y, k⟩ := e
    obtain ⟨ylo, yg, yz, yd, yh, ynm, yk, _⟩ := tld_inv _ _ _ _ _ ht (w.idx_low []) (w.idx_good [] wg) (by omega) (by omega)
    have ynm : ∀ s, s ∈ y.nms → s ∈ fiveS := fun s z => xn s (ynm s z)
    have ynx : Nx 120 y := nx_five (n := 0) ynm (by omega)
    have ho : HO w (dueV y k) true := .inl ⟨y, k, ht, ynx, rfl, rfl⟩
    refine cut2 (fun es S => es = [some (.ref h), some t.val, some (t.idx []).val, some (.ref q), some w.val, o5, some (tldV (some (y, k))), none] ∧ DX S0 S h p ∧ S q = some (.lst (ts.map Tm.val))) (fun N hN => ?_) ?_
    · simp! only [tldV]
      refine ⟨by decide, fun q1 hq1 => ?_⟩
      exact ⟨w, q1, [], rfl, ups_same, by omega, by simp; omega, fun S1 X1 => ⟨w.idx [], rfl, by omega, fun S2 X2 => ifD (fun _ => ret S2 (D.exts (((Ext.new hq1).trans X1).trans X2))) fun _ => hN _ _ ⟨rfl, D.exts (((Ext.new hq1).trans X1).trans X2), X2 _ _ (X1 _ _ ((Ext.new hq1) _ _ hq))⟩⟩⟩
    clear D hq S
    rintro _ S ⟨rfl, D, hq⟩
    have gds : ∀ u, u ∈ ts → u.good = true ∧ u.size ≤ 120 ∧ u.deep ≤ 16 := fun u hu => by
      obtain ⟨a1, a2, a3⟩ := hts u hu
      exact ⟨u.good_of fun s z => fiveS_names s (a3 s z), by omega, by omega⟩
    simp! only [tldV]
    refine ⟨t.val, q, rfl, (t.dv (B := fun _ => False) tg).any, fun _ => ⟨t, ts, dueV y k, true, rfl, tg, hq, gds, by rw [hw]; exact wg, by rw [hw]; omega, by rw [hw]; omega, by rw [hw]; exact ho, fun S1 X1 => ?_⟩, fun z => (by rw [isTermV_good tg (by omega) (by omega)] at z; cases z)⟩
    refine ⟨y, rfl, ylo, by omega, by omega, ynx, fun S2 X2 => ⟨by decide, ?_⟩⟩
    exact ⟨dueV y k, dueV y k, rfl, (same_due y k).mono (by omega), fun S3 X3 => ret S3 (D.exts ((X1.trans X2).trans X3))⟩
end G

set_option Elab.async false
set_option linter.all false
set_option maxRecDepth 100000
set_option maxHeartbeats 1000000
namespace G
open PySem A3
def oneT : Tm := .l "x" (.v "x")
def twiceT : Tm := .l "x" (.a (.v "x") (.v "x"))
theorem fr_yy0 : frF ["y", "y"] 0 = "a" := by decide +kernel
theorem fr_y0 : frF ["y"] 0 = "a" := by decide +kernel
theorem fr_y1 : frF ["y"] 1 = "b" := by decide +kernel
theorem idx_one (b : List Str) : oneT.idx b = .l (.v 0) := by simp [oneT, Tm.idx]
theorem idx_twice : twiceT.idx [] = .l (.a (.v 0) (.v 0)) := by simp [twiceT, Tm.idx]
theorem idx_y (b : List Str) (h : ("y" : Str) ∉ b) : (Tm.v "y").idx b = .nm "y" := by simp [Tm.idx, h]
def T1 : Tm := .a twiceT (.a oneT (.v "y"))
def y1 : Ix := .a (.nm "y") (.a (.l (.v 0)) (.nm "y"))
theorem idx_T1 : T1.idx [] = .a (.l (.a (.v 0) (.v 0))) (.a (.l (.v 0)) (.nm "y")) := by
  show Ix.a (twiceT.idx []) (.a (oneT.idx []) ((Tm.v "y").idx [])) = _
  rw [idx_twice, idx_one, idx_y [] (by simp)]
theorem tld_T1 : tld 40 0 (T1.idx []) = some (y1, 2) := by rw [idx_T1]; rfl
theorem nm_y1 : (namT y1).val = .tup [.str "of", .str "y", .tup [.str "of", .tup [.str "with", .str "a", .str "a"], .str "y"]] := by
  show Val.tup [.str "of", .str "y", .tup [.str "of", .tup [.str "with", .str (frF ["y", "y"] 0), .str (frF ["y", "y"] 0)], .str "y"]] = _
  rw [fr_yy0]
def T2 : Tm := .a twiceT twiceT
theorem idx_T2 : T2.idx [] = .a (.l (.a (.v 0) (.v 0))) (.l (.a (.v 0) (.v 0))) := by
  show Ix.a (twiceT.idx []) (twiceT.idx []) = _
  rw [idx_twice]
theorem ho_T2 : HO T2 (.tup [.str "more"]) false := .inr ⟨[], by rw [idx_T2]; rfl, by rw [idx_T2]; rfl, rfl, rfl⟩
def T3 : Tm := .a twiceT (.v "y")
def y3 : Ix := .a (.nm "y") (.nm "y")
theorem idx_T3 : T3.idx [] = .a (.l (.a (.v 0) (.v 0))) (.nm "y") := by
  show Ix.a (twiceT.idx []) ((Tm.v "y").idx []) = _
  rw [idx_twice, idx_y [] (by simp)]
theorem tld_T3 : tld 40 0 (T3.idx []) = some (y3, 1) := by rw [idx_T3]; rfl
theorem nm_y3 : (namT y3).val = .tup [.str "of", .str "y", .str "y"] := rfl
def T4 : Tm := .l "x" (.a (.v "x") (.a oneT (.v "y")))
def y4 : Ix := .l (.a (.v 0) (.a (.l (.v 0)) (.nm "y")))
theorem idx_T4 : T4.idx [] = y4 := by
  show Ix.l (.a ((Tm.v "x").idx ["x"]) (.a (oneT.idx ["x"]) ((Tm.v "y").idx ["x"]))) = _
  rw [idx_one, idx_y ["x"] (by decide +kernel)]
  simp [Tm.idx, y4]
theorem tld_T4 : tld 40 0 (T4.idx []) = some (y4, 0) := by rw [idx_T4]; rfl
theorem nm_y4 : (namT y4).val = .tup [.str "with", .str "a", .tup [.str "of", .str "a", .tup [.str "of", .tup [.str "with", .str "b", .str "b"], .str "y"]]] := by
  show Val.tup [.str "with", .str (frF ["y"] 0), .tup [.str "of", .str (frF ["y"] 0), .tup [.str "of", .tup [.str "with", .str (frF ["y"] 1), .str (frF ["y"] 1)], .str "y"]]] = _
  rw [fr_y0, fr_y1]
theorem ne_due2 {S : Store} {R : AK} {y : Ix} {k : Nat} (g : (namT y).good = true) (d : y.deep ≤ 60) (h : R (.bl false) S) : neA (dueV y k) (dueV y k) S R := by
  obtain ⟨h1, h2⟩ := due_lay (k := k) g
  rw [namT_deep] at h2
  have w : SeqAt.shaped (dueD y k) = true := by
    unfold SeqAt.shaped
    rw [h1, decide_eq_true (by omega)]
    rfl
  exact ne_dat (due_drel y k) (due_drel y k) w w (by rw [due_eqv]; exact h)
theorem eq_strs3 {p q : Addr} {S : Store} {R : AK} (hp : S p = some (.lst [.str "!NoTerm", .str "!NoTerm", .str "!NoTerm"])) (hq : S q = some (.lst [.str "!NoTerm", .str "!NoTerm", .str "!NoTerm"])) (h : R (.bl true) S) : eqA (.ref p) (.ref q) S R := by
  refine eq_dat (d := .list [.str "!NoTerm", .str "!NoTerm", .str "!NoTerm"]) (e := .list [.str "!NoTerm", .str "!NoTerm", .str "!NoTerm"]) (.lst (.inl hp) (.cons (.str _) (.cons (.str _) (.cons (.str _) .nil)))) (.lst (.inl hq) (.cons (.str _) (.cons (.str _) (.cons (.str _) .nil)))) (by decide +kernel) (by decide +kernel) ?_
  rw [show PyData.eqv (.list [.str "!NoTerm", .str "!NoTerm", .str "!NoTerm"]) (.list [.str "!NoTerm", .str "!NoTerm", .str "!NoTerm"]) = true by decide +kernel]
  exact h
structure Ex (t : Tm) : Prop where
  g : t.good = true
  z : t.size ≤ 120
  d : t.deep ≤ 16
theorem Ex.tt {t : Tm} (h : Ex t) : isTermV t.val = true := isTermV_good h.g h.d h.z
theorem ex_T1 : Ex T1 := ⟨by decide +kernel, by decide, by decide⟩
theorem ex_T2 : Ex T2 := ⟨by decide +kernel, by decide, by decide⟩
theorem ex_T3 : Ex T3 := ⟨by decide +kernel, by decide, by decide⟩
theorem ex_T4 : Ex T4 := ⟨by decide +kernel, by decide, by decide⟩
theorem ex_tw : Ex twiceT := ⟨by decide +kernel, by decide, by decide⟩
theorem told_call {K : PySem.W.Frag} {t : Tm} {r : Val} {b : Bool} {S : Store} {R : AK} {RE : AX} (e : Ex t) (h : HO t r b) (hR : ∀ S', Ext S S' → R r S') : sp_head_told K [t.val] S R RE :=
  ⟨t.val, rfl, (t.dv (B := fun _ => False) e.g).any, fun _ => ⟨t, r, b, rfl, e.g, e.z, e.d, h, hR⟩, fun z => (by rw [e.tt] at z; cases z)⟩
theorem has_call {K : PySem.W.Frag} {t : Tm} {r : Val} {b : Bool} {S : Store} {R : AK} {RE : AX} (e : Ex t) (h : HO t r b) (hR : ∀ S', Ext S S' → R (.bl b) S') : sp_has_head K [t.val] S R RE :=
  ⟨t.val, rfl, (t.dv (B := fun _ => False) e.g).any, fun _ => ⟨t, r, b, rfl, e.g, e.z, e.d, h, hR⟩, fun z => (by rw [e.tt] at z; cases z)⟩
theorem nx_y {y : Ix} (h : ∀ s, s ∈ y.nms → s ∈ fiveS) (d : y.deep ≤ 110) : Nx 120 y := nx_five (n := 0) h d
theorem y_five : ("y" : Str) ∈ fiveS := by decide +kernel
theorem ho_T1 : HO T1 (dueV y1 2) true := .inl ⟨y1, 2, tld_T1, nx_y (fun s hs => by
  have : s = "y" := by simpa [y1, Ix.nms] using hs
  rw [this]; exact y_five) (by decide), rfl, rfl⟩
theorem ho_T3 : HO T3 (dueV y3 1) true := .inl ⟨y3, 1, tld_T3, nx_y (fun s hs => by
  have : s = "y" := by simpa [y3, Ix.nms] using hs
  rw [this]; exact y_five) (by decide), rfl, rfl⟩
theorem ho_T4 : HO T4 (dueV y4 0) true := .inl ⟨y4, 0, tld_T4, nx_y (fun s hs => by
  have : s = "y" := by simpa [y4, Ix.nms] using hs
  rw [this]; exact y_five) (by decide), rfl, rfl⟩
theorem good_y {y : Ix} (g : y.good) (l : y.low 0) (n : ∀ s, s ∈ y.nms → s ∈ fiveS) (d : y.deep ≤ 110) : (namT y).good = true := namT_good g l (nx_y n d)
theorem pf_law {K : PySem.W.Frag} (xf : XF K) : ∀ va S R RE, lawSp 63 va S R RE → rd_law K (sp__law_hand K) (sp_head_told K) (sp_has_head K) (sp__law_is 120 K) (sp_head_after K) (sp__law_any K) (sp__law_case_right K) (D0 R RE) (astart N_law va) S := by
  rintro va S R RE ⟨a, ns, rfl, hl, ha, _, ret⟩
  unfold rd_law
  refine cut2 (fun es S => ∃ h p, es = [some (.ref a), some (.ref h), none, none, none, none, none, none, none, none] ∧ Hand S h p) (fun N hN => ?_) ?_
  · simp! only []
    exact ⟨a, ns, rfl, ha, fun h p S' hh _ _ => hN _ _ ⟨h, p, rfl, hh⟩⟩
  clear ha
  rintro _ S ⟨h, p, rfl, H⟩
  refine cut2 (fun es S' => es = [some (.ref a), some (.ref h), some oneT.val, some twiceT.val, none, none, none, none, none, none] ∧ S = S') (fun N hN => ?_) ?_
  · simp! only []
    exact ⟨by decide, by decide, by decide, by decide, trivial, trivial, hN _ _ ⟨rfl, rfl⟩⟩
  rintro _ _ ⟨rfl, rfl⟩
  -- told
  refine cut2 (fun es S' => ∃ q, es = [some (.ref a), some (.ref h), some oneT.val, some twiceT.val, some (.ref q), none, none, none, none, none] ∧ Ext S S' ∧ S q = none ∧ S' q = some (.lst [dueV y1 2, .tup [.str "more"]])) (fun N hN => ?_) ?_
  · simp! only []
    refine ⟨by decide, by decide, told_call ex_T1 ho_T1 fun S1 X1 => ⟨by decide, told_call ex_T2 ho_T2 fun S2 X2 => ⟨by decide, fun q hq => ?_⟩⟩⟩
    have X := X1.trans X2
    exact hN _ _ ⟨q, rfl, X.trans (.new hq), X.none hq, ups_same⟩
  rintro _ S0 ⟨q, rfl, X0, q0, hq⟩
  refine cut2 (fun es S' => es = [some (.ref a), some (.ref h), some oneT.val, some twiceT.val, some (.ref q), none, none, none, none, none] ∧ Ext S S' ∧ S' q = some (.lst [dueV y1 2, .tup [.str "more"], .bl false])) (fun N hN => ?_) ?_
  · simp! only [hq]
    refine ⟨trivial, by decide, has_call ex_T2 ho_T2 fun S1 X1 => ?_⟩
    rw [X1 _ _ hq]
    simp! only []
    exact ⟨by decide, hN _ _ ⟨rfl, (X0.trans X1).put q0, ups_same⟩⟩
  clear X0 hq S0
  rintro _ S0 ⟨rfl, X0, hq⟩
  -- due
  have gy1 : (namT y1).good = true := by decide +kernel
  refine cut2 (fun es S' => ∃ q5, es = [some (.ref a), some (.ref h), some oneT.val, some twiceT.val, some (.ref q), some (.ref q5), none, none, none, none] ∧ Ext S S' ∧ S' q = some (.lst [dueV y1 2, .tup [.str "more"], .bl false]) ∧ S' q5 = some (.lst [dueV y1 2, .tup [.str "more"], .bl false])) (fun N hN => ?_) ?_
  · simp! only []
    refine ⟨by decide, by decide, by decide, by decide, by decide, by decide, fun q5 hq5 => ?_⟩
    rw [← nm_y1]
    exact hN _ _ ⟨q5, rfl, X0.trans (.new hq5), (Ext.new hq5) _ _ hq, ups_same⟩
  clear X0 hq S0
  rintro _ S0 ⟨q5, rfl, X0, hq, hq5⟩
  refine cut2 (fun es S' => es = [some (.ref a), some (.ref h), some oneT.val, some twiceT.val, some (.ref q), some (.ref q5), none, none, none, none] ∧ Ext S S') (fun N hN => ?_) ?_
  · simp! only []
    refine ⟨.ref q, .ref q5, rfl, ?_, fun S1 X1 => ?_⟩
    · refine .lst 119 hq hq5 rfl (by simp) fun i u v h1 h2 => ?_
      match i, h1, h2 with
      | 0, h1, h2 => cases h1; cases h2; exact (same_due y1 2).mono (by decide)
      | 1, h1, h2 =>
        cases h1; cases h2
        refine .tup 118 rfl (by simp) fun i u v h1 h2 => ?_
        match i, h1, h2 with
        | 0, h1, h2 => cases h1; cases h2; exact .str 117 _
      | 2, h1, h2 => cases h1; cases h2; exact .bl 118 false
    · simp only [Bool.not_true, Bool.false_eq_true, if_false]
      refine ⟨by decide, fun q9 hq9 => ?_⟩
      have X2 := (X0.trans X1).trans (.new (c := .lst [.str "y"]) hq9)
      refine ⟨twiceT.val, q9, rfl, (twiceT.dv (B := fun _ => False) ex_tw.g).any, fun _ => ⟨twiceT, [.v "y"], dueV y3 1, true, rfl, ex_tw.g, ups_same, fun u hu => ?_, ex_T3.g, ex_T3.z, ex_T3.d, ho_T3, fun S3 X3 => ⟨by decide, by decide, ?_⟩⟩, fun z => (by rw [ex_tw.tt] at z; cases z)⟩
      · rw [List.mem_singleton.mp hu]
        exact ⟨by decide +kernel, by decide, by decide⟩
      · refine ne_due2 (y := y3) (k := 1) (by decide +kernel) (by decide) ?_
        dsimp only
        rw [if_neg Bool.false_ne_true]
        exact hN _ _ ⟨rfl, X2.trans X3⟩
  clear X0 hq hq5 S0
  rintro _ S0 ⟨rfl, X0⟩
  -- given so
  refine cut2 (fun es S' => es = [some (.ref a), some (.ref h), some oneT.val, some twiceT.val, some (.ref q), some (.ref q5), some (dueV y4 0), none, none, none] ∧ Ext S S') (fun N hN => ?_) ?_
  · simp! only []
    exact ⟨by decide, by decide, by decide, told_call ex_T4 ho_T4 fun S1 X1 => hN _ _ ⟨rfl, X0.trans X1⟩⟩
  clear X0 S0
  rintro _ S0 ⟨rfl, X0⟩
  refine cut2 (fun es S' => es = [some (.ref a), some (.ref h), some oneT.val, some twiceT.val, some (.ref q), some (.ref q5), some (dueV y4 0), none, none, none] ∧ Hand S' h p) (fun N hN => ?_) ?_
  · simp! only []
    refine ⟨by decide, by decide, by decide, by decide, by decide, ?_⟩
    rw [← nm_y4]
    refine ne_due2 (y := y4) (k := 0) (by decide +kernel) (by decide) ?_
    dsimp only
    rw [if_neg Bool.false_ne_true]
    exact hN _ _ ⟨rfl, H.ext X0⟩
  clear X0 H q0 S0 S
  rintro _ S ⟨rfl, H⟩
  -- bad
  refine cut2 (fun es S => ∃ (q7 q0 : Addr), es = [some (.ref a), some (.ref h), some oneT.val, some twiceT.val, some (.ref q), some (.ref q5), some (dueV y4 0), some (.ref q7), none, none] ∧ Hand S h p ∧ q7 ≠ h ∧ q0 ≠ h ∧ S q0 = some (.lst [.str "of", .str "a", .str "b"]) ∧ S q7 = some (.lst [.non, .str "", .str "X", .tup [.str "of", .str "a"], .tup [.str "with", .str "a"], .tup [.str "with", .str "A", .str "a"], .ref q0, .tup [.str "of", .str "a", .int 0]])) (fun N hN => ?_) ?_
  · simp! only []
    refine ⟨by decide, by decide, by decide, by decide, fun q0 hq0 => ⟨by decide, by decide, fun q7 hq7 => ?_⟩⟩
    have H1 := H.ext (.new (c := .lst [.str "of", .str "a", .str "b"]) hq0)
    exact hN _ _ ⟨q7, q0, rfl, H1.ext (.new hq7), (H1.new hq7).1, (H.new hq0).1, (Ext.new hq7) _ _ ups_same, ups_same⟩
  clear H S
  rintro _ S ⟨q7, q0, rfl, H, n7, n0, h0, h7⟩
  refine cut2 (fun es S => ∃ (q7 : Addr) (xs : List Val), es = [some (.ref a), some (.ref h), some oneT.val, some twiceT.val, some (.ref q), some (.ref q5), some (dueV y4 0), some (.ref q7), none, none] ∧ Hand S h p ∧ q7 ≠ h ∧ S q7 = some (.lst xs) ∧ xs.length = 13 ∧ ∀ x, x ∈ xs → DV S (fun a => a = h) 20 x ∧ isTermV x = false) (fun N hN => ?_) ?_
  · simp! only []
    refine ⟨by decide, by decide, by decide, by decide, by decide, by decide, fun q1 hq1 => ?_⟩
    have X1 : Ext S (ups S q1 (.lst [.int 0, .tup [.str "to", .str "a", .str "b"], .tup [], .tup [.str "with", .tup [.str "of", .str "a", .str "b"], .str "a"], .tup [.str "of", .str "a", .str "b", .str "c"]])) := .new hq1
    refine ⟨_, _, X1 _ _ h7, ups_same, show 8 + 5 ≤ sizeLine by decide, fun u hu => ?_⟩
    have X2 := X1.trans (.new (c := .lst ([.non, .str "", .str "X", .tup [.str "of", .str "a"], .tup [.str "with", .str "a"], .tup [.str "with", .str "A", .str "a"], .ref q0, .tup [.str "of", .str "a", .int 0]] ++ [.int 0, .tup [.str "to", .str "a", .str "b"], .tup [], .tup [.str "with", .tup [.str "of", .str "a", .str "b"], .str "a"], .tup [.str "of", .str "a", .str "b", .str "c"]])) hu)
    have e0 := X2 _ _ h0
    refine hN _ _ ⟨u, _, rfl, H.ext X2, ((H.ext X1).new hu).1, ups_same, rfl, fun y hy => ?_⟩
    generalize ups (ups S q1 (.lst [.int 0, .tup [.str "to", .str "a", .str "b"], .tup [], .tup [.str "with", .tup [.str "of", .str "a", .str "b"], .str "a"], .tup [.str "of", .str "a", .str "b", .str "c"]])) u (.lst ([.non, .str "", .str "X", .tup [.str "of", .str "a"], .tup [.str "with", .str "a"], .tup [.str "with", .str "A", .str "a"], .ref q0, .tup [.str "of", .str "a", .int 0]] ++ [.int 0, .tup [.str "to", .str "a", .str "b"], .tup [], .tup [.str "with", .tup [.str "of", .str "a", .str "b"], .str "a"], .tup [.str "of", .str "a", .str "b", .str "c"]])) = S2 at e0 ⊢
    have ds : ∀ {n : Nat} {z : Str}, z.length ≤ 1000 → PyData.strOk z = true → DV S2 (fun a => a = h) n (.str z) := fun a b => .str _ a b
    simp only [List.cons_append, List.nil_append, List.mem_cons, List.not_mem_nil, or_false] at hy
    rcases hy with rfl | rfl | rfl | rfl | rfl | rfl | rfl | rfl | rfl | rfl | rfl | rfl | rfl
    · exact ⟨.non _, none_1⟩
    · exact ⟨ds (by decide) (by decide +kernel), by decide +kernel⟩
    · exact ⟨ds (by decide) (by decide +kernel), by decide +kernel⟩
    · refine ⟨.tup fun y hy => ?_, none_3⟩
      simp only [List.mem_cons, List.not_mem_nil, or_false] at hy
      rcases hy with rfl | rfl <;> exact ds (by decide) (by decide +kernel)
    · refine ⟨.tup fun y hy => ?_, by decide +kernel⟩
      simp only [List.mem_cons, List.not_mem_nil, or_false] at hy
      rcases hy with rfl | rfl <;> exact ds (by decide) (by decide +kernel)
    · refine ⟨.tup fun y hy => ?_, by decide +kernel⟩
      simp only [List.mem_cons, List.not_mem_nil, or_false] at hy
      rcases hy with rfl | rfl | rfl <;> exact ds (by decide) (by decide +kernel)
    · refine ⟨.ref (n := 19) n0 e0 fun y hy => ?_, rfl⟩
      simp only [List.mem_cons, List.not_mem_nil, or_false] at hy
      rcases hy with rfl | rfl | rfl <;> exact ds (by decide) (by decide +kernel)
    · refine ⟨.tup fun y hy => ?_, by decide +kernel⟩
      simp only [List.mem_cons, List.not_mem_nil, or_false] at hy
      rcases hy with rfl | rfl | rfl
      · exact ds (by decide) (by decide +kernel)
      · exact ds (by decide) (by decide +kernel)
      · exact .int _ _
    · exact ⟨.int _ _, none_2⟩
    · refine ⟨.tup fun y hy => ?_, by decide +kernel⟩
      simp only [List.mem_cons, List.not_mem_nil, or_false] at hy
      rcases hy with rfl | rfl | rfl <;> exact ds (by decide) (by decide +kernel)
    · exact ⟨.tup fun y hy => (by cases hy), by decide +kernel⟩
    · refine ⟨.tup fun y hy => ?_, by decide +kernel⟩
      simp only [List.mem_cons, List.not_mem_nil, or_false] at hy
      rcases hy with rfl | rfl | rfl
      · exact ds (by decide) (by decide +kernel)
      · refine .tup fun y hy => ?_
        simp only [List.mem_cons, List.not_mem_nil, or_false] at hy
        rcases hy with rfl | rfl | rfl <;> exact ds (by decide) (by decide +kernel)
      · exact ds (by decide) (by decide +kernel)
    · refine ⟨.tup fun y hy => ?_, by decide +kernel⟩
      simp only [List.mem_cons, List.not_mem_nil, or_false] at hy
      rcases hy with rfl | rfl | rfl | rfl <;> exact ds (by decide) (by decide +kernel)
  clear h7 h0 n0 n7 H q7 q0 S
  rintro _ S ⟨q7, xs, rfl, H, hqh, hq, hxl, hy⟩
  refine cut2 (fun es S => ∃ x, es = [some (.ref a), some (.ref h), some oneT.val, some twiceT.val, some (.ref q), some (.ref q5), some (dueV y4 0), some x, none, none] ∧ Hand S h p ∧ AnyV S x ∧ isTermV x = false) (fun N hN => ?_) ?_
  · simp! only []
    exact ⟨h, p, q7, xs, rfl, H, hq, hqh, by omega, by omega, fun x S1 hx hD => hN _ _ ⟨x, rfl, hD.1, ((hy x hx).1.dx rfl (Drawn.dx (.refl H) hD)).any, (hy x hx).2⟩⟩
  clear H hq hy hqh hxl S
  rintro _ S ⟨x, rfl, H, hx, hxt⟩
  -- words
  refine cut2 (fun es S' => ∃ q8 : Addr, es = [some (.ref a), some (.ref h), some oneT.val, some twiceT.val, some (.ref q), some (.ref q5), some (dueV y4 0), some x, some (.ref q8), none] ∧ Ext S S' ∧ S q8 = none ∧ S' q8 = some (.lst [.str "!NoTerm", .str "!NoTerm"])) (fun N hN => ?_) ?_
  · simp! only []
    refine lam_NoTerm xf (fun S1 E' R' X hE => ?_) fun S1 X1 => lam_NoTerm xf (fun S2 E' R' X hE => ?_) fun S2 X2 => ⟨by decide, fun q hq => hN _ _ ⟨q, rfl, (X1.trans X2).trans (.new hq), (X1.trans X2).none hq, ups_same⟩⟩
    · simp! only []
      exact ⟨x, rfl, hx.xc X, fun z => (by rw [hxt] at z; cases z), fun _ => hE⟩
    · simp! only []
      exact ⟨x, rfl, (hx.ext X1).xc X, fun z => (by rw [hxt] at z; cases z), fun _ => hE⟩
  rintro _ S1 ⟨q8, rfl, X1, q80, hq8⟩
  refine cut2 (fun es S' => es = [some (.ref a), some (.ref h), some oneT.val, some twiceT.val, some (.ref q), some (.ref q5), some (dueV y4 0), some x, some (.ref q8), none] ∧ Ext S S' ∧ S' q8 = some (.lst [.str "!NoTerm", .str "!NoTerm", .str "!NoTerm"])) (fun N hN => ?_) ?_
  · simp! only [hq8]
    refine ⟨trivial, lam_NoTerm xf (fun S2 E' R' X hE => ?_) fun S2 X => ?_⟩
    · simp! only []
      refine ⟨by decide, fun q hq => ?_⟩
      have X5 : Ext S2 (ups S2 q (.lst [])) := .new hq
      exact ⟨x, q, rfl, ((hx.ext X1).xc X).ext X5, fun z => (by rw [hxt] at z; cases z), fun _ S3 X3 => hE S3 (X5.trans X3)⟩
    · rw [X _ _ hq8]
      simp! only []
      exact ⟨by decide, hN _ _ ⟨rfl, (X1.trans X).put q80, ups_same⟩⟩
  clear X1 hq8 S1
  rintro _ S1 ⟨rfl, X1, hq8⟩
  simp! only []
  refine ⟨by decide, fun p1 hp1 => ?_⟩
  refine ⟨_, ups_same, by decide, by decide, by decide, fun p2 hp2 => ?_⟩
  have X2 := (X1.trans (.new (c := .lst [.str "!NoTerm"]) hp1)).trans (.new (c := .lst (List.replicate (3 : Int).toNat [Val.str "!NoTerm"]).flatten) hp2)
  have k2 := (Ext.new (c := .lst (List.replicate (3 : Int).toNat [Val.str "!NoTerm"]).flatten) hp2) _ _ ((Ext.new (c := .lst [.str "!NoTerm"]) hp1) _ _ hq8)
  refine eq_strs3 k2 (by rw [ups_same]; rfl) ?_
  dsimp only
  rw [if_pos rfl]
  refine lc_drawB (h := h) (p := p) (fun y => y = .bl true) 6 (by decide) (.refl (H.ext X2)) (fun N hN => ?_) (fun i S3 D Y hY => ?_) fun q S3 ys q0 qh D hq hl hy => ?_
  · dsimp! only []
    exact hN 6 _ (by decide) (.refl (H.ext X2))
  · simp! only []
    exact ⟨h, p, rfl, D.1, fun S' D' => hY _ _ rfl D'⟩
  · refine ⟨List.replicate ys.length true, .inl ?_, ?_⟩
    · rw [hq, List.map_replicate]
      exact congrArg some (congrArg Cell.lst (List.eq_replicate_iff.mpr ⟨rfl, hy⟩))
    · rw [show (List.replicate ys.length true).all id = true by simp]
      exact ret S3
end G

set_option Elab.async false
set_option linter.all false
set_option maxRecDepth 100000
set_option maxHeartbeats 1000000
namespace G
open PySem PySem.Spec PyProof.Rows L2 A3
def room : Nat := 209
section
variable {P : Program} {w : World} {K : PySem.W.Frag} {mg : Str → Option Value} {base : Heap} {T : Tb}
/-- a promise that nothing asks for -/
theorem cal_none {k : Nat} {x : Str} {st : Stmt} {ps : List Str} {asp : ASp} (D : DefA K mg x st)
    (hbd : ∀ (kV doc pm : Value) (an : Option Addr) (cdv ct : Value) (us : List Value), us.length = ps.length → bindArgs (PySem.W.fnOf x x (defArgs st) (defBody st) (defScope st) .none kV doc pm an cdv ct) ⟨us, []⟩ = pure (ps.zip us))
    (h : ∀ va S R RE, ¬ asp va S R RE) : CalA P w K mg base T k x asp := by
  obtain ⟨oc, od, kV, doc, pm, an, ct, osl, lk, hcd⟩ := D.ex
  exact ⟨_, _, ps, ⟨fun vs H Q E ⟨va, S, R, RE, _, _, z, _⟩ => (h va S R RE z).elim, fun A outer s H args us vs Q E _ _ _ _ ⟨va, S, R, RE, _, _, z, _⟩ => (h va S R RE z).elim⟩, D.gm, D.kp, D.binds hbd lk⟩
theorem c_is_integer (h : Hd P w K mg base T) : CalA P w K mg base T 1 "is_integer" (sp_is_integer K) := ok_is_integer h (k := 0)  (fun va S R RE h => by (first | (obtain ⟨_, e, _⟩ := h; exact congrArg List.length e) | (obtain ⟨_, _, e, _⟩ := h; exact congrArg List.length e) | (obtain ⟨_, _, _, e, _⟩ := h; exact congrArg List.length e) | (obtain ⟨_, _, _, _, e, _⟩ := h; exact congrArg List.length e) | (obtain ⟨_, _, _, _, _, e, _⟩ := h; exact congrArg List.length e) | (obtain ⟨_, _, _, _, _, _, e, _⟩ := h; exact congrArg List.length e) | (obtain ⟨_, _, _, _, _, _, _, e, _⟩ := h; exact congrArg List.length e) | (obtain ⟨_, _, _, _, _, _, _, _, e, _⟩ := h; exact congrArg List.length e) | (obtain ⟨_, _, _, _, _, _, _, _, _, e, _⟩ := h; exact congrArg List.length e) | (obtain ⟨_, _, _, _, _, _, _, _, _, _, e, _⟩ := h; exact congrArg List.length e))) pf_is_integer
theorem c_is_name (h : Hd P w K mg base T) : CalA P w K mg base T 1 "is_name" (sp_is_name K) := ok_is_name h (k := 0)  (fun va S R RE h => by (first | (obtain ⟨_, e, _⟩ := h; exact congrArg List.length e) | (obtain ⟨_, _, e, _⟩ := h; exact congrArg List.length e) | (obtain ⟨_, _, _, e, _⟩ := h; exact congrArg List.length e) | (obtain ⟨_, _, _, _, e, _⟩ := h; exact congrArg List.length e) | (obtain ⟨_, _, _, _, _, e, _⟩ := h; exact congrArg List.length e) | (obtain ⟨_, _, _, _, _, _, e, _⟩ := h; exact congrArg List.length e) | (obtain ⟨_, _, _, _, _, _, _, e, _⟩ := h; exact congrArg List.length e) | (obtain ⟨_, _, _, _, _, _, _, _, e, _⟩ := h; exact congrArg List.length e) | (obtain ⟨_, _, _, _, _, _, _, _, _, e, _⟩ := h; exact congrArg List.length e) | (obtain ⟨_, _, _, _, _, _, _, _, _, _, e, _⟩ := h; exact congrArg List.length e))) pf_is_name
theorem c_is_tuple (h : Hd P w K mg base T) : CalA P w K mg base T 1 "is_tuple" (sp_is_tuple K) := ok_is_tuple h (k := 0)  (fun va S R RE h => by (first | (obtain ⟨_, e, _⟩ := h; exact congrArg List.length e) | (obtain ⟨_, _, e, _⟩ := h; exact congrArg List.length e) | (obtain ⟨_, _, _, e, _⟩ := h; exact congrArg List.length e) | (obtain ⟨_, _, _, _, e, _⟩ := h; exact congrArg List.length e) | (obtain ⟨_, _, _, _, _, e, _⟩ := h; exact congrArg List.length e) | (obtain ⟨_, _, _, _, _, _, e, _⟩ := h; exact congrArg List.length e) | (obtain ⟨_, _, _, _, _, _, _, e, _⟩ := h; exact congrArg List.length e) | (obtain ⟨_, _, _, _, _, _, _, _, e, _⟩ := h; exact congrArg List.length e) | (obtain ⟨_, _, _, _, _, _, _, _, _, e, _⟩ := h; exact congrArg List.length e) | (obtain ⟨_, _, _, _, _, _, _, _, _, _, e, _⟩ := h; exact congrArg List.length e))) pf_is_tuple
theorem c_is_headed (h : Hd P w K mg base T) : CalA P w K mg base T 2 "is_headed" (sp_is_headed K) := ok_is_headed h (k := 1) ((c_is_tuple h).mono (by decide)) (fun va S R RE h => by (first | (obtain ⟨_, e, _⟩ := h; exact congrArg List.length e) | (obtain ⟨_, _, e, _⟩ := h; exact congrArg List.length e) | (obtain ⟨_, _, _, e, _⟩ := h; exact congrArg List.length e) | (obtain ⟨_, _, _, _, e, _⟩ := h; exact congrArg List.length e) | (obtain ⟨_, _, _, _, _, e, _⟩ := h; exact congrArg List.length e) | (obtain ⟨_, _, _, _, _, _, e, _⟩ := h; exact congrArg List.length e) | (obtain ⟨_, _, _, _, _, _, _, e, _⟩ := h; exact congrArg List.length e) | (obtain ⟨_, _, _, _, _, _, _, _, e, _⟩ := h; exact congrArg List.length e) | (obtain ⟨_, _, _, _, _, _, _, _, _, e, _⟩ := h; exact congrArg List.length e) | (obtain ⟨_, _, _, _, _, _, _, _, _, _, e, _⟩ := h; exact congrArg List.length e))) pf_is_headed
theorem c_name_at (h : Hd P w K mg base T) : CalA P w K mg base T 1 "name_at" (sp_name_at K) := ok_name_at h (k := 0)  (fun va S R RE h => by (first | (obtain ⟨_, e, _⟩ := h; exact congrArg List.length e) | (obtain ⟨_, _, e, _⟩ := h; exact congrArg List.length e) | (obtain ⟨_, _, _, e, _⟩ := h; exact congrArg List.length e) | (obtain ⟨_, _, _, _, e, _⟩ := h; exact congrArg List.length e) | (obtain ⟨_, _, _, _, _, e, _⟩ := h; exact congrArg List.length e) | (obtain ⟨_, _, _, _, _, _, e, _⟩ := h; exact congrArg List.length e) | (obtain ⟨_, _, _, _, _, _, _, e, _⟩ := h; exact congrArg List.length e) | (obtain ⟨_, _, _, _, _, _, _, _, e, _⟩ := h; exact congrArg List.length e) | (obtain ⟨_, _, _, _, _, _, _, _, _, e, _⟩ := h; exact congrArg List.length e) | (obtain ⟨_, _, _, _, _, _, _, _, _, _, e, _⟩ := h; exact congrArg List.length e))) pf_name_at
theorem c_forms_of (h : Hd P w K mg base T) : CalA P w K mg base T 3 "forms_of" (sp_forms_of K) := ok_forms_of h (k := 2) ((c_is_name h).mono (by decide)) ((c_is_headed h).mono (by decide)) (fun va S R RE h => by (first | (obtain ⟨_, e, _⟩ := h; exact congrArg List.length e) | (obtain ⟨_, _, e, _⟩ := h; exact congrArg List.length e) | (obtain ⟨_, _, _, e, _⟩ := h; exact congrArg List.length e) | (obtain ⟨_, _, _, _, e, _⟩ := h; exact congrArg List.length e) | (obtain ⟨_, _, _, _, _, e, _⟩ := h; exact congrArg List.length e) | (obtain ⟨_, _, _, _, _, _, e, _⟩ := h; exact congrArg List.length e) | (obtain ⟨_, _, _, _, _, _, _, e, _⟩ := h; exact congrArg List.length e) | (obtain ⟨_, _, _, _, _, _, _, _, e, _⟩ := h; exact congrArg List.length e) | (obtain ⟨_, _, _, _, _, _, _, _, _, e, _⟩ := h; exact congrArg List.length e) | (obtain ⟨_, _, _, _, _, _, _, _, _, _, e, _⟩ := h; exact congrArg List.length e))) pf_forms_of
theorem c_is_term (h : Hd P w K mg base T) : CalA P w K mg base T 4 "is_term" (sp_is_term K) := ok_is_term h (k := 3) ((c_forms_of h).mono (by decide)) (fun va S R RE h => by (first | (obtain ⟨_, e, _⟩ := h; exact congrArg List.length e) | (obtain ⟨_, _, e, _⟩ := h; exact congrArg List.length e) | (obtain ⟨_, _, _, e, _⟩ := h; exact congrArg List.length e) | (obtain ⟨_, _, _, _, e, _⟩ := h; exact congrArg List.length e) | (obtain ⟨_, _, _, _, _, e, _⟩ := h; exact congrArg List.length e) | (obtain ⟨_, _, _, _, _, _, e, _⟩ := h; exact congrArg List.length e) | (obtain ⟨_, _, _, _, _, _, _, e, _⟩ := h; exact congrArg List.length e) | (obtain ⟨_, _, _, _, _, _, _, _, e, _⟩ := h; exact congrArg List.length e) | (obtain ⟨_, _, _, _, _, _, _, _, _, e, _⟩ := h; exact congrArg List.length e) | (obtain ⟨_, _, _, _, _, _, _, _, _, _, e, _⟩ := h; exact congrArg List.length e))) pf_is_term
theorem c_check_term (h : Hd P w K mg base T) : CalA P w K mg base T 5 "check_term" (sp_check_term K) := ok_check_term h (k := 4) (by decide) ((c_is_term h).mono (by decide)) (fun va S R RE h => by (first | (obtain ⟨_, e, _⟩ := h; exact congrArg List.length e) | (obtain ⟨_, _, e, _⟩ := h; exact congrArg List.length e) | (obtain ⟨_, _, _, e, _⟩ := h; exact congrArg List.length e) | (obtain ⟨_, _, _, _, e, _⟩ := h; exact congrArg List.length e) | (obtain ⟨_, _, _, _, _, e, _⟩ := h; exact congrArg List.length e) | (obtain ⟨_, _, _, _, _, _, e, _⟩ := h; exact congrArg List.length e) | (obtain ⟨_, _, _, _, _, _, _, e, _⟩ := h; exact congrArg List.length e) | (obtain ⟨_, _, _, _, _, _, _, _, e, _⟩ := h; exact congrArg List.length e) | (obtain ⟨_, _, _, _, _, _, _, _, _, e, _⟩ := h; exact congrArg List.length e) | (obtain ⟨_, _, _, _, _, _, _, _, _, _, e, _⟩ := h; exact congrArg List.length e))) pf_check_term
theorem c_raw_indexed (h : Hd P w K mg base T) : CalA P w K mg base T 1 "raw_indexed" (sp_raw_indexed K) := ok_raw_indexed h (k := 0)  (fun va S R RE h => by (first | (obtain ⟨_, e, _⟩ := h; exact congrArg List.length e) | (obtain ⟨_, _, e, _⟩ := h; exact congrArg List.length e) | (obtain ⟨_, _, _, e, _⟩ := h; exact congrArg List.length e) | (obtain ⟨_, _, _, _, e, _⟩ := h; exact congrArg List.length e) | (obtain ⟨_, _, _, _, _, e, _⟩ := h; exact congrArg List.length e) | (obtain ⟨_, _, _, _, _, _, e, _⟩ := h; exact congrArg List.length e) | (obtain ⟨_, _, _, _, _, _, _, e, _⟩ := h; exact congrArg List.length e) | (obtain ⟨_, _, _, _, _, _, _, _, e, _⟩ := h; exact congrArg List.length e) | (obtain ⟨_, _, _, _, _, _, _, _, _, e, _⟩ := h; exact congrArg List.length e) | (obtain ⟨_, _, _, _, _, _, _, _, _, _, e, _⟩ := h; exact congrArg List.length e))) pf_raw_indexed
theorem c_free_of_indexed (h : Hd P w K mg base T) : CalA P w K mg base T 2 "free_of_indexed" (sp_free_of_indexed K) := ok_free_of_indexed h (k := 1) ((c_is_integer h).mono (by decide)) (fun va S R RE h => by (first | (obtain ⟨_, e, _⟩ := h; exact congrArg List.length e) | (obtain ⟨_, _, e, _⟩ := h; exact congrArg List.length e) | (obtain ⟨_, _, _, e, _⟩ := h; exact congrArg List.length e) | (obtain ⟨_, _, _, _, e, _⟩ := h; exact congrArg List.length e) | (obtain ⟨_, _, _, _, _, e, _⟩ := h; exact congrArg List.length e) | (obtain ⟨_, _, _, _, _, _, e, _⟩ := h; exact congrArg List.length e) | (obtain ⟨_, _, _, _, _, _, _, e, _⟩ := h; exact congrArg List.length e) | (obtain ⟨_, _, _, _, _, _, _, _, e, _⟩ := h; exact congrArg List.length e) | (obtain ⟨_, _, _, _, _, _, _, _, _, e, _⟩ := h; exact congrArg List.length e) | (obtain ⟨_, _, _, _, _, _, _, _, _, _, e, _⟩ := h; exact congrArg List.length e))) pf_free_of_indexed
theorem c_raw_named (h : Hd P w K mg base T) : CalA P w K mg base T 3 "raw_named" (sp_raw_named K) := ok_raw_named h (k := 2) ((c_free_of_indexed h).mono (by decide)) ((c_is_integer h).mono (by decide)) ((c_name_at h).mono (by decide)) (fun va S R RE h => by (first | (obtain ⟨_, e, _⟩ := h; exact congrArg List.length e) | (obtain ⟨_, _, e, _⟩ := h; exact congrArg List.length e) | (obtain ⟨_, _, _, e, _⟩ := h; exact congrArg List.length e) | (obtain ⟨_, _, _, _, e, _⟩ := h; exact congrArg List.length e) | (obtain ⟨_, _, _, _, _, e, _⟩ := h; exact congrArg List.length e) | (obtain ⟨_, _, _, _, _, _, e, _⟩ := h; exact congrArg List.length e) | (obtain ⟨_, _, _, _, _, _, _, e, _⟩ := h; exact congrArg List.length e) | (obtain ⟨_, _, _, _, _, _, _, _, e, _⟩ := h; exact congrArg List.length e) | (obtain ⟨_, _, _, _, _, _, _, _, _, e, _⟩ := h; exact congrArg List.length e) | (obtain ⟨_, _, _, _, _, _, _, _, _, _, e, _⟩ := h; exact congrArg List.length e))) pf_raw_named
theorem c_parts_of (h : Hd P w K mg base T) : CalA P w K mg base T 2 "parts_of" (sp_parts_of K) := ok_parts_of h (k := 1) ((c_is_integer h).mono (by decide)) (fun va S R RE h => by (first | (obtain ⟨_, e, _⟩ := h; exact congrArg List.length e) | (obtain ⟨_, _, e, _⟩ := h; exact congrArg List.length e) | (obtain ⟨_, _, _, e, _⟩ := h; exact congrArg List.length e) | (obtain ⟨_, _, _, _, e, _⟩ := h; exact congrArg List.length e) | (obtain ⟨_, _, _, _, _, e, _⟩ := h; exact congrArg List.length e) | (obtain ⟨_, _, _, _, _, _, e, _⟩ := h; exact congrArg List.length e) | (obtain ⟨_, _, _, _, _, _, _, e, _⟩ := h; exact congrArg List.length e) | (obtain ⟨_, _, _, _, _, _, _, _, e, _⟩ := h; exact congrArg List.length e) | (obtain ⟨_, _, _, _, _, _, _, _, _, e, _⟩ := h; exact congrArg List.length e) | (obtain ⟨_, _, _, _, _, _, _, _, _, _, e, _⟩ := h; exact congrArg List.length e))) pf_parts_of
theorem c_moved (h : Hd P w K mg base T) : CalA P w K mg base T 5 "moved" (sp_moved K) := ok_moved h (j := 2) (k := 4) (by decide) ((c_parts_of h).mono (by decide)) ((c_is_integer h).mono (by decide)) (fun va S R RE h => by (first | (obtain ⟨_, e, _⟩ := h; exact congrArg List.length e) | (obtain ⟨_, _, e, _⟩ := h; exact congrArg List.length e) | (obtain ⟨_, _, _, e, _⟩ := h; exact congrArg List.length e) | (obtain ⟨_, _, _, _, e, _⟩ := h; exact congrArg List.length e) | (obtain ⟨_, _, _, _, _, e, _⟩ := h; exact congrArg List.length e) | (obtain ⟨_, _, _, _, _, _, e, _⟩ := h; exact congrArg List.length e) | (obtain ⟨_, _, _, _, _, _, _, e, _⟩ := h; exact congrArg List.length e) | (obtain ⟨_, _, _, _, _, _, _, _, e, _⟩ := h; exact congrArg List.length e) | (obtain ⟨_, _, _, _, _, _, _, _, _, e, _⟩ := h; exact congrArg List.length e) | (obtain ⟨_, _, _, _, _, _, _, _, _, _, e, _⟩ := h; exact congrArg List.length e))) pf_moved
theorem c_opened (h : Hd P w K mg base T) : CalA P w K mg base T 8 "opened" (sp_opened K) := ok_opened h (j := 5) (k := 7) (by decide) ((c_parts_of h).mono (by decide)) ((c_is_integer h).mono (by decide)) ((c_moved h).mono (by decide)) (fun va S R RE h => by (first | (obtain ⟨_, e, _⟩ := h; exact congrArg List.length e) | (obtain ⟨_, _, e, _⟩ := h; exact congrArg List.length e) | (obtain ⟨_, _, _, e, _⟩ := h; exact congrArg List.length e) | (obtain ⟨_, _, _, _, e, _⟩ := h; exact congrArg List.length e) | (obtain ⟨_, _, _, _, _, e, _⟩ := h; exact congrArg List.length e) | (obtain ⟨_, _, _, _, _, _, e, _⟩ := h; exact congrArg List.length e) | (obtain ⟨_, _, _, _, _, _, _, e, _⟩ := h; exact congrArg List.length e) | (obtain ⟨_, _, _, _, _, _, _, _, e, _⟩ := h; exact congrArg List.length e) | (obtain ⟨_, _, _, _, _, _, _, _, _, e, _⟩ := h; exact congrArg List.length e) | (obtain ⟨_, _, _, _, _, _, _, _, _, _, e, _⟩ := h; exact congrArg List.length e))) pf_opened
theorem c_grown (h : Hd P w K mg base T) : CalA P w K mg base T 3 "grown" (sp_grown K) := ok_grown h (k := 2) ((c_parts_of h).mono (by decide)) (fun va S R RE h => by (first | (obtain ⟨_, e, _⟩ := h; exact congrArg List.length e) | (obtain ⟨_, _, e, _⟩ := h; exact congrArg List.length e) | (obtain ⟨_, _, _, e, _⟩ := h; exact congrArg List.length e) | (obtain ⟨_, _, _, _, e, _⟩ := h; exact congrArg List.length e) | (obtain ⟨_, _, _, _, _, e, _⟩ := h; exact congrArg List.length e) | (obtain ⟨_, _, _, _, _, _, e, _⟩ := h; exact congrArg List.length e) | (obtain ⟨_, _, _, _, _, _, _, e, _⟩ := h; exact congrArg List.length e) | (obtain ⟨_, _, _, _, _, _, _, _, e, _⟩ := h; exact congrArg List.length e) | (obtain ⟨_, _, _, _, _, _, _, _, _, e, _⟩ := h; exact congrArg List.length e) | (obtain ⟨_, _, _, _, _, _, _, _, _, _, e, _⟩ := h; exact congrArg List.length e))) pf_grown
theorem c_is_redex (h : Hd P w K mg base T) : CalA P w K mg base T 2 "is_redex" (sp_is_redex K) := ok_is_redex h (k := 1) ((c_is_integer h).mono (by decide)) (fun va S R RE h => by (first | (obtain ⟨_, e, _⟩ := h; exact congrArg List.length e) | (obtain ⟨_, _, e, _⟩ := h; exact congrArg List.length e) | (obtain ⟨_, _, _, e, _⟩ := h; exact congrArg List.length e) | (obtain ⟨_, _, _, _, e, _⟩ := h; exact congrArg List.length e) | (obtain ⟨_, _, _, _, _, e, _⟩ := h; exact congrArg List.length e) | (obtain ⟨_, _, _, _, _, _, e, _⟩ := h; exact congrArg List.length e) | (obtain ⟨_, _, _, _, _, _, _, e, _⟩ := h; exact congrArg List.length e) | (obtain ⟨_, _, _, _, _, _, _, _, e, _⟩ := h; exact congrArg List.length e) | (obtain ⟨_, _, _, _, _, _, _, _, _, e, _⟩ := h; exact congrArg List.length e) | (obtain ⟨_, _, _, _, _, _, _, _, _, _, e, _⟩ := h; exact congrArg List.length e))) pf_is_redex
theorem c_at_path (h : Hd P w K mg base T) : CalA P w K mg base T 1 "at_path" (sp_at_path K) := ok_at_path h (k := 0)  (fun va S R RE h => by (first | (obtain ⟨_, e, _⟩ := h; exact congrArg List.length e) | (obtain ⟨_, _, e, _⟩ := h; exact congrArg List.length e) | (obtain ⟨_, _, _, e, _⟩ := h; exact congrArg List.length e) | (obtain ⟨_, _, _, _, e, _⟩ := h; exact congrArg List.length e) | (obtain ⟨_, _, _, _, _, e, _⟩ := h; exact congrArg List.length e) | (obtain ⟨_, _, _, _, _, _, e, _⟩ := h; exact congrArg List.length e) | (obtain ⟨_, _, _, _, _, _, _, e, _⟩ := h; exact congrArg List.length e) | (obtain ⟨_, _, _, _, _, _, _, _, e, _⟩ := h; exact congrArg List.length e) | (obtain ⟨_, _, _, _, _, _, _, _, _, e, _⟩ := h; exact congrArg List.length e) | (obtain ⟨_, _, _, _, _, _, _, _, _, _, e, _⟩ := h; exact congrArg List.length e))) pf_at_path
theorem c_with_at (h : Hd P w K mg base T) : CalA P w K mg base T 1 "with_at" (sp_with_at K) := ok_with_at h (k := 0)  (fun va S R RE h => by (first | (obtain ⟨_, e, _⟩ := h; exact congrArg List.length e) | (obtain ⟨_, _, e, _⟩ := h; exact congrArg List.length e) | (obtain ⟨_, _, _, e, _⟩ := h; exact congrArg List.length e) | (obtain ⟨_, _, _, _, e, _⟩ := h; exact congrArg List.length e) | (obtain ⟨_, _, _, _, _, e, _⟩ := h; exact congrArg List.length e) | (obtain ⟨_, _, _, _, _, _, e, _⟩ := h; exact congrArg List.length e) | (obtain ⟨_, _, _, _, _, _, _, e, _⟩ := h; exact congrArg List.length e) | (obtain ⟨_, _, _, _, _, _, _, _, e, _⟩ := h; exact congrArg List.length e) | (obtain ⟨_, _, _, _, _, _, _, _, _, e, _⟩ := h; exact congrArg List.length e) | (obtain ⟨_, _, _, _, _, _, _, _, _, _, e, _⟩ := h; exact congrArg List.length e))) pf_with_at
theorem c_raw_step (h : Hd P w K mg base T) : CalA P w K mg base T 9 "raw_step" (sp_raw_step K) := ok_raw_step h (k := 8) ((c_at_path h).mono (by decide)) ((c_opened h).mono (by decide)) ((c_with_at h).mono (by decide)) ((c_grown h).mono (by decide)) (fun va S R RE h => by (first | (obtain ⟨_, e, _⟩ := h; exact congrArg List.length e) | (obtain ⟨_, _, e, _⟩ := h; exact congrArg List.length e) | (obtain ⟨_, _, _, e, _⟩ := h; exact congrArg List.length e) | (obtain ⟨_, _, _, _, e, _⟩ := h; exact congrArg List.length e) | (obtain ⟨_, _, _, _, _, e, _⟩ := h; exact congrArg List.length e) | (obtain ⟨_, _, _, _, _, _, e, _⟩ := h; exact congrArg List.length e) | (obtain ⟨_, _, _, _, _, _, _, e, _⟩ := h; exact congrArg List.length e) | (obtain ⟨_, _, _, _, _, _, _, _, e, _⟩ := h; exact congrArg List.length e) | (obtain ⟨_, _, _, _, _, _, _, _, _, e, _⟩ := h; exact congrArg List.length e) | (obtain ⟨_, _, _, _, _, _, _, _, _, _, e, _⟩ := h; exact congrArg List.length e))) pf_raw_step
theorem c_head_path (h : Hd P w K mg base T) : CalA P w K mg base T 3 "head_path" (sp_head_path K) := ok_head_path h (k := 2) ((c_is_integer h).mono (by decide)) ((c_is_redex h).mono (by decide)) (fun va S R RE h => by (first | (obtain ⟨_, e, _⟩ := h; exact congrArg List.length e) | (obtain ⟨_, _, e, _⟩ := h; exact congrArg List.length e) | (obtain ⟨_, _, _, e, _⟩ := h; exact congrArg List.length e) | (obtain ⟨_, _, _, _, e, _⟩ := h; exact congrArg List.length e) | (obtain ⟨_, _, _, _, _, e, _⟩ := h; exact congrArg List.length e) | (obtain ⟨_, _, _, _, _, _, e, _⟩ := h; exact congrArg List.length e) | (obtain ⟨_, _, _, _, _, _, _, e, _⟩ := h; exact congrArg List.length e) | (obtain ⟨_, _, _, _, _, _, _, _, e, _⟩ := h; exact congrArg List.length e) | (obtain ⟨_, _, _, _, _, _, _, _, _, e, _⟩ := h; exact congrArg List.length e) | (obtain ⟨_, _, _, _, _, _, _, _, _, _, e, _⟩ := h; exact congrArg List.length e))) pf_head_path
theorem c_head_told (h : Hd P w K mg base T) : CalA P w K mg base T 10 "head_told" (sp_head_told K) := ok_head_told h (k := 9) ((c_check_term h).mono (by decide)) ((c_raw_indexed h).mono (by decide)) ((c_head_path h).mono (by decide)) ((c_raw_step h).mono (by decide)) ((c_raw_named h).mono (by decide)) (fun va S R RE h => by (first | (obtain ⟨_, e, _⟩ := h; exact congrArg List.length e) | (obtain ⟨_, _, e, _⟩ := h; exact congrArg List.length e) | (obtain ⟨_, _, _, e, _⟩ := h; exact congrArg List.length e) | (obtain ⟨_, _, _, _, e, _⟩ := h; exact congrArg List.length e) | (obtain ⟨_, _, _, _, _, e, _⟩ := h; exact congrArg List.length e) | (obtain ⟨_, _, _, _, _, _, e, _⟩ := h; exact congrArg List.length e) | (obtain ⟨_, _, _, _, _, _, _, e, _⟩ := h; exact congrArg List.length e) | (obtain ⟨_, _, _, _, _, _, _, _, e, _⟩ := h; exact congrArg List.length e) | (obtain ⟨_, _, _, _, _, _, _, _, _, e, _⟩ := h; exact congrArg List.length e) | (obtain ⟨_, _, _, _, _, _, _, _, _, _, e, _⟩ := h; exact congrArg List.length e))) pf_head_told
theorem c_has_head (h : Hd P w K mg base T) : CalA P w K mg base T 11 "has_head" (sp_has_head K) := ok_has_head h (k := 10) ((c_head_told h).mono (by decide)) (fun va S R RE h => by (first | (obtain ⟨_, e, _⟩ := h; exact congrArg List.length e) | (obtain ⟨_, _, e, _⟩ := h; exact congrArg List.length e) | (obtain ⟨_, _, _, e, _⟩ := h; exact congrArg List.length e) | (obtain ⟨_, _, _, _, e, _⟩ := h; exact congrArg List.length e) | (obtain ⟨_, _, _, _, _, e, _⟩ := h; exact congrArg List.length e) | (obtain ⟨_, _, _, _, _, _, e, _⟩ := h; exact congrArg List.length e) | (obtain ⟨_, _, _, _, _, _, _, e, _⟩ := h; exact congrArg List.length e) | (obtain ⟨_, _, _, _, _, _, _, _, e, _⟩ := h; exact congrArg List.length e) | (obtain ⟨_, _, _, _, _, _, _, _, _, e, _⟩ := h; exact congrArg List.length e) | (obtain ⟨_, _, _, _, _, _, _, _, _, _, e, _⟩ := h; exact congrArg List.length e))) pf_has_head
theorem c_head_after (h : Hd P w K mg base T) : CalA P w K mg base T 11 "head_after" (sp_head_after K) := ok_head_after h (k := 10) ((c_check_term h).mono (by decide)) ((c_head_told h).mono (by decide)) (fun va S R RE h => by (first | (obtain ⟨_, e, _⟩ := h; exact congrArg List.length e) | (obtain ⟨_, _, e, _⟩ := h; exact congrArg List.length e) | (obtain ⟨_, _, _, e, _⟩ := h; exact congrArg List.length e) | (obtain ⟨_, _, _, _, e, _⟩ := h; exact congrArg List.length e) | (obtain ⟨_, _, _, _, _, e, _⟩ := h; exact congrArg List.length e) | (obtain ⟨_, _, _, _, _, _, e, _⟩ := h; exact congrArg List.length e) | (obtain ⟨_, _, _, _, _, _, _, e, _⟩ := h; exact congrArg List.length e) | (obtain ⟨_, _, _, _, _, _, _, _, e, _⟩ := h; exact congrArg List.length e) | (obtain ⟨_, _, _, _, _, _, _, _, _, e, _⟩ := h; exact congrArg List.length e) | (obtain ⟨_, _, _, _, _, _, _, _, _, _, e, _⟩ := h; exact congrArg List.length e))) pf_head_after
theorem c__law_hand (h : Hd P w K mg base T) : CalA P w K mg base T 1 "_law_hand" (sp__law_hand K) := ok__law_hand h (k := 0)  (fun va S R RE h => by (first | (obtain ⟨_, e, _⟩ := h; exact congrArg List.length e) | (obtain ⟨_, _, e, _⟩ := h; exact congrArg List.length e) | (obtain ⟨_, _, _, e, _⟩ := h; exact congrArg List.length e) | (obtain ⟨_, _, _, _, e, _⟩ := h; exact congrArg List.length e) | (obtain ⟨_, _, _, _, _, e, _⟩ := h; exact congrArg List.length e) | (obtain ⟨_, _, _, _, _, _, e, _⟩ := h; exact congrArg List.length e) | (obtain ⟨_, _, _, _, _, _, _, e, _⟩ := h; exact congrArg List.length e) | (obtain ⟨_, _, _, _, _, _, _, _, e, _⟩ := h; exact congrArg List.length e) | (obtain ⟨_, _, _, _, _, _, _, _, _, e, _⟩ := h; exact congrArg List.length e) | (obtain ⟨_, _, _, _, _, _, _, _, _, _, e, _⟩ := h; exact congrArg List.length e))) pf__law_hand
theorem c__law_draw (h : Hd P w K mg base T) : CalA P w K mg base T 1 "_law_draw" (sp__law_draw K) := ok__law_draw h (k := 0)  (fun va S R RE h => by (first | (obtain ⟨_, e, _⟩ := h; exact congrArg List.length e) | (obtain ⟨_, _, e, _⟩ := h; exact congrArg List.length e) | (obtain ⟨_, _, _, e, _⟩ := h; exact congrArg List.length e) | (obtain ⟨_, _, _, _, e, _⟩ := h; exact congrArg List.length e) | (obtain ⟨_, _, _, _, _, e, _⟩ := h; exact congrArg List.length e) | (obtain ⟨_, _, _, _, _, _, e, _⟩ := h; exact congrArg List.length e) | (obtain ⟨_, _, _, _, _, _, _, e, _⟩ := h; exact congrArg List.length e) | (obtain ⟨_, _, _, _, _, _, _, _, e, _⟩ := h; exact congrArg List.length e) | (obtain ⟨_, _, _, _, _, _, _, _, _, e, _⟩ := h; exact congrArg List.length e) | (obtain ⟨_, _, _, _, _, _, _, _, _, _, e, _⟩ := h; exact congrArg List.length e))) pf__law_draw
theorem c__law_any (h : Hd P w K mg base T) : CalA P w K mg base T 2 "_law_any" (sp__law_any K) := ok__law_any h (k := 1) ((c__law_draw h).mono (by decide)) (fun va S R RE h => by (first | (obtain ⟨_, e, _⟩ := h; exact congrArg List.length e) | (obtain ⟨_, _, e, _⟩ := h; exact congrArg List.length e) | (obtain ⟨_, _, _, e, _⟩ := h; exact congrArg List.length e) | (obtain ⟨_, _, _, _, e, _⟩ := h; exact congrArg List.length e) | (obtain ⟨_, _, _, _, _, e, _⟩ := h; exact congrArg List.length e) | (obtain ⟨_, _, _, _, _, _, e, _⟩ := h; exact congrArg List.length e) | (obtain ⟨_, _, _, _, _, _, _, e, _⟩ := h; exact congrArg List.length e) | (obtain ⟨_, _, _, _, _, _, _, _, e, _⟩ := h; exact congrArg List.length e) | (obtain ⟨_, _, _, _, _, _, _, _, _, e, _⟩ := h; exact congrArg List.length e) | (obtain ⟨_, _, _, _, _, _, _, _, _, _, e, _⟩ := h; exact congrArg List.length e))) pf__law_any
theorem c__law_is (h : Hd P w K mg base T) : ∀ d, CalA P w K mg base T (d + 1) "_law_is" (sp__law_is d K)
  | 0 => cal_none (ps := ["given", "due"]) h.D__law_is (fun _ _ _ _ _ _ us hl => match us, hl with | [_, _], _ => rfl) fun va S R RE z => by
    obtain ⟨x, y, _, h, _⟩ := z
    cases h
  | d + 1 => ok__law_is h (c__law_is h d) (fun va S R RE h => by (first | (obtain ⟨_, e, _⟩ := h; exact congrArg List.length e) | (obtain ⟨_, _, e, _⟩ := h; exact congrArg List.length e) | (obtain ⟨_, _, _, e, _⟩ := h; exact congrArg List.length e) | (obtain ⟨_, _, _, _, e, _⟩ := h; exact congrArg List.length e) | (obtain ⟨_, _, _, _, _, e, _⟩ := h; exact congrArg List.length e) | (obtain ⟨_, _, _, _, _, _, e, _⟩ := h; exact congrArg List.length e) | (obtain ⟨_, _, _, _, _, _, _, e, _⟩ := h; exact congrArg List.length e) | (obtain ⟨_, _, _, _, _, _, _, _, e, _⟩ := h; exact congrArg List.length e) | (obtain ⟨_, _, _, _, _, _, _, _, _, e, _⟩ := h; exact congrArg List.length e) | (obtain ⟨_, _, _, _, _, _, _, _, _, _, e, _⟩ := h; exact congrArg List.length e))) (pf__law_is d)
theorem c__law_term (h : Hd P w K mg base T) : ∀ d, CalA P w K mg base T (d + 3) "_law_term" (sp__law_term d K)
  | 0 => cal_none (ps := ["hand", "deep", "inside"]) h.D__law_term (fun _ _ _ _ _ _ us hl => match us, hl with | [_, _, _], _ => rfl) fun va S R RE z => by
    obtain ⟨_, _, _, _, n, _, hn, _⟩ := z
    omega
  | d + 1 => ok__law_term h ((c__law_draw h).mono (by omega)) ((c__law_any h).mono (by omega)) (c__law_term h d) (fun va S R RE h => by (first | (obtain ⟨_, e, _⟩ := h; exact congrArg List.length e) | (obtain ⟨_, _, e, _⟩ := h; exact congrArg List.length e) | (obtain ⟨_, _, _, e, _⟩ := h; exact congrArg List.length e) | (obtain ⟨_, _, _, _, e, _⟩ := h; exact congrArg List.length e) | (obtain ⟨_, _, _, _, _, e, _⟩ := h; exact congrArg List.length e) | (obtain ⟨_, _, _, _, _, _, e, _⟩ := h; exact congrArg List.length e) | (obtain ⟨_, _, _, _, _, _, _, e, _⟩ := h; exact congrArg List.length e) | (obtain ⟨_, _, _, _, _, _, _, _, e, _⟩ := h; exact congrArg List.length e) | (obtain ⟨_, _, _, _, _, _, _, _, _, e, _⟩ := h; exact congrArg List.length e) | (obtain ⟨_, _, _, _, _, _, _, _, _, _, e, _⟩ := h; exact congrArg List.length e))) (pf__law_term d)
theorem c__law_indexed (h : Hd P w K mg base T) : ∀ d, CalA P w K mg base T (d + 1) "_law_indexed" (sp__law_indexed d K)
  | 0 => cal_none (ps := ["term", "inside"]) h.D__law_indexed (fun _ _ _ _ _ _ us hl => match us, hl with | [_, _], _ => rfl) fun va S R RE z => by
    obtain ⟨t, _, _, _, _, hd, _⟩ := z
    have := t.deep_pos
    omega
  | d + 1 => ok__law_indexed h (c__law_indexed h d) (fun va S R RE h => by (first | (obtain ⟨_, e, _⟩ := h; exact congrArg List.length e) | (obtain ⟨_, _, e, _⟩ := h; exact congrArg List.length e) | (obtain ⟨_, _, _, e, _⟩ := h; exact congrArg List.length e) | (obtain ⟨_, _, _, _, e, _⟩ := h; exact congrArg List.length e) | (obtain ⟨_, _, _, _, _, e, _⟩ := h; exact congrArg List.length e) | (obtain ⟨_, _, _, _, _, _, e, _⟩ := h; exact congrArg List.length e) | (obtain ⟨_, _, _, _, _, _, _, e, _⟩ := h; exact congrArg List.length e) | (obtain ⟨_, _, _, _, _, _, _, _, e, _⟩ := h; exact congrArg List.length e) | (obtain ⟨_, _, _, _, _, _, _, _, _, e, _⟩ := h; exact congrArg List.length e) | (obtain ⟨_, _, _, _, _, _, _, _, _, _, e, _⟩ := h; exact congrArg List.length e))) (pf__law_indexed d)
theorem c__law_is_name (h : Hd P w K mg base T) : CalA P w K mg base T 1 "_law_is_name" (sp__law_is_name K) := ok__law_is_name h (k := 0)  (fun va S R RE h => by (first | (obtain ⟨_, e, _⟩ := h; exact congrArg List.length e) | (obtain ⟨_, _, e, _⟩ := h; exact congrArg List.length e) | (obtain ⟨_, _, _, e, _⟩ := h; exact congrArg List.length e) | (obtain ⟨_, _, _, _, e, _⟩ := h; exact congrArg List.length e) | (obtain ⟨_, _, _, _, _, e, _⟩ := h; exact congrArg List.length e) | (obtain ⟨_, _, _, _, _, _, e, _⟩ := h; exact congrArg List.length e) | (obtain ⟨_, _, _, _, _, _, _, e, _⟩ := h; exact congrArg List.length e) | (obtain ⟨_, _, _, _, _, _, _, _, e, _⟩ := h; exact congrArg List.length e) | (obtain ⟨_, _, _, _, _, _, _, _, _, e, _⟩ := h; exact congrArg List.length e) | (obtain ⟨_, _, _, _, _, _, _, _, _, _, e, _⟩ := h; exact congrArg List.length e))) pf__law_is_name
theorem c__law_free (h : Hd P w K mg base T) : ∀ d, CalA P w K mg base T (d + 2) "_law_free" (sp__law_free d K)
  | 0 => cal_none (ps := ["part"]) h.D__law_free (fun _ _ _ _ _ _ us hl => match us, hl with | [_], _ => rfl) fun va S R RE z => by
    obtain ⟨x, _, hd, _⟩ := z
    have := x.deep_pos'
    omega
  | d + 1 => ok__law_free h ((c__law_is_name h).mono (by omega)) (c__law_free h d) (fun va S R RE h => by (first | (obtain ⟨_, e, _⟩ := h; exact congrArg List.length e) | (obtain ⟨_, _, e, _⟩ := h; exact congrArg List.length e) | (obtain ⟨_, _, _, e, _⟩ := h; exact congrArg List.length e) | (obtain ⟨_, _, _, _, e, _⟩ := h; exact congrArg List.length e) | (obtain ⟨_, _, _, _, _, e, _⟩ := h; exact congrArg List.length e) | (obtain ⟨_, _, _, _, _, _, e, _⟩ := h; exact congrArg List.length e) | (obtain ⟨_, _, _, _, _, _, _, e, _⟩ := h; exact congrArg List.length e) | (obtain ⟨_, _, _, _, _, _, _, _, e, _⟩ := h; exact congrArg List.length e) | (obtain ⟨_, _, _, _, _, _, _, _, _, e, _⟩ := h; exact congrArg List.length e) | (obtain ⟨_, _, _, _, _, _, _, _, _, _, e, _⟩ := h; exact congrArg List.length e))) (pf__law_free d)
theorem c__law_size (h : Hd P w K mg base T) : ∀ d, CalA P w K mg base T (d + 2) "_law_size" (sp__law_size d K)
  | 0 => cal_none (ps := ["part"]) h.D__law_size (fun _ _ _ _ _ _ us hl => match us, hl with | [_], _ => rfl) fun va S R RE z => by
    obtain ⟨x, _, hd, _⟩ := z
    have := x.deep_pos'
    omega
  | d + 1 => ok__law_size h ((c__law_is_name h).mono (by omega)) (c__law_size h d) (fun va S R RE h => by (first | (obtain ⟨_, e, _⟩ := h; exact congrArg List.length e) | (obtain ⟨_, _, e, _⟩ := h; exact congrArg List.length e) | (obtain ⟨_, _, _, e, _⟩ := h; exact congrArg List.length e) | (obtain ⟨_, _, _, _, e, _⟩ := h; exact congrArg List.length e) | (obtain ⟨_, _, _, _, _, e, _⟩ := h; exact congrArg List.length e) | (obtain ⟨_, _, _, _, _, _, e, _⟩ := h; exact congrArg List.length e) | (obtain ⟨_, _, _, _, _, _, _, e, _⟩ := h; exact congrArg List.length e) | (obtain ⟨_, _, _, _, _, _, _, _, e, _⟩ := h; exact congrArg List.length e) | (obtain ⟨_, _, _, _, _, _, _, _, _, e, _⟩ := h; exact congrArg List.length e) | (obtain ⟨_, _, _, _, _, _, _, _, _, _, e, _⟩ := h; exact congrArg List.length e))) (pf__law_size d)
theorem c__law_deep (h : Hd P w K mg base T) : ∀ d, CalA P w K mg base T (d + 2) "_law_deep" (sp__law_deep d K)
  | 0 => cal_none (ps := ["part"]) h.D__law_deep (fun _ _ _ _ _ _ us hl => match us, hl with | [_], _ => rfl) fun va S R RE z => by
    obtain ⟨x, _, hd, _⟩ := z
    have := x.deep_pos'
    omega
  | d + 1 => ok__law_deep h ((c__law_is_name h).mono (by omega)) (c__law_deep h d) (fun va S R RE h => by (first | (obtain ⟨_, e, _⟩ := h; exact congrArg List.length e) | (obtain ⟨_, _, e, _⟩ := h; exact congrArg List.length e) | (obtain ⟨_, _, _, e, _⟩ := h; exact congrArg List.length e) | (obtain ⟨_, _, _, _, e, _⟩ := h; exact congrArg List.length e) | (obtain ⟨_, _, _, _, _, e, _⟩ := h; exact congrArg List.length e) | (obtain ⟨_, _, _, _, _, _, e, _⟩ := h; exact congrArg List.length e) | (obtain ⟨_, _, _, _, _, _, _, e, _⟩ := h; exact congrArg List.length e) | (obtain ⟨_, _, _, _, _, _, _, _, e, _⟩ := h; exact congrArg List.length e) | (obtain ⟨_, _, _, _, _, _, _, _, _, e, _⟩ := h; exact congrArg List.length e) | (obtain ⟨_, _, _, _, _, _, _, _, _, _, e, _⟩ := h; exact congrArg List.length e))) (pf__law_deep d)
theorem c__law_led (h : Hd P w K mg base T) : ∀ d, CalA P w K mg base T (d + 2) "_law_led" (sp__law_led d K)
  | 0 => cal_none (ps := ["part", "names", "inside"]) h.D__law_led (fun _ _ _ _ _ _ us hl => match us, hl with | [_, _, _], _ => rfl) fun va S R RE z => by
    obtain ⟨x, _, _, _, _, _, _, _, hd, _⟩ := z
    have := x.deep_pos'
    omega
  | d + 1 => ok__law_led h ((c__law_is_name h).mono (by omega)) (c__law_led h d) (fun va S R RE h => by (first | (obtain ⟨_, e, _⟩ := h; exact congrArg List.length e) | (obtain ⟨_, _, e, _⟩ := h; exact congrArg List.length e) | (obtain ⟨_, _, _, e, _⟩ := h; exact congrArg List.length e) | (obtain ⟨_, _, _, _, e, _⟩ := h; exact congrArg List.length e) | (obtain ⟨_, _, _, _, _, e, _⟩ := h; exact congrArg List.length e) | (obtain ⟨_, _, _, _, _, _, e, _⟩ := h; exact congrArg List.length e) | (obtain ⟨_, _, _, _, _, _, _, e, _⟩ := h; exact congrArg List.length e) | (obtain ⟨_, _, _, _, _, _, _, _, e, _⟩ := h; exact congrArg List.length e) | (obtain ⟨_, _, _, _, _, _, _, _, _, e, _⟩ := h; exact congrArg List.length e) | (obtain ⟨_, _, _, _, _, _, _, _, _, _, e, _⟩ := h; exact congrArg List.length e))) (pf__law_led d)
theorem c__law_plain (h : Hd P w K mg base T) : CalA P w K mg base T 113 "_law_plain" (sp__law_plain K) := ok__law_plain h (k := 112) ((c__law_free h 110).mono (by decide)) ((c__law_led h 110).mono (by decide)) (fun va S R RE h => by (first | (obtain ⟨_, e, _⟩ := h; exact congrArg List.length e) | (obtain ⟨_, _, e, _⟩ := h; exact congrArg List.length e) | (obtain ⟨_, _, _, e, _⟩ := h; exact congrArg List.length e) | (obtain ⟨_, _, _, _, e, _⟩ := h; exact congrArg List.length e) | (obtain ⟨_, _, _, _, _, e, _⟩ := h; exact congrArg List.length e) | (obtain ⟨_, _, _, _, _, _, e, _⟩ := h; exact congrArg List.length e) | (obtain ⟨_, _, _, _, _, _, _, e, _⟩ := h; exact congrArg List.length e) | (obtain ⟨_, _, _, _, _, _, _, _, e, _⟩ := h; exact congrArg List.length e) | (obtain ⟨_, _, _, _, _, _, _, _, _, e, _⟩ := h; exact congrArg List.length e) | (obtain ⟨_, _, _, _, _, _, _, _, _, _, e, _⟩ := h; exact congrArg List.length e))) pf__law_plain
theorem c__law_lift (h : Hd P w K mg base T) : ∀ d, CalA P w K mg base T (d + 2) "_law_lift" (sp__law_lift d K)
  | 0 => cal_none (ps := ["part", "by", "least"]) h.D__law_lift (fun _ _ _ _ _ _ us hl => match us, hl with | [_, _, _], _ => rfl) fun va S R RE z => by
    obtain ⟨x, _, _, _, hd, _⟩ := z
    have := x.deep_pos'
    omega
  | d + 1 => ok__law_lift h ((c__law_is_name h).mono (by omega)) (c__law_lift h d) (fun va S R RE h => by (first | (obtain ⟨_, e, _⟩ := h; exact congrArg List.length e) | (obtain ⟨_, _, e, _⟩ := h; exact congrArg List.length e) | (obtain ⟨_, _, _, e, _⟩ := h; exact congrArg List.length e) | (obtain ⟨_, _, _, _, e, _⟩ := h; exact congrArg List.length e) | (obtain ⟨_, _, _, _, _, e, _⟩ := h; exact congrArg List.length e) | (obtain ⟨_, _, _, _, _, _, e, _⟩ := h; exact congrArg List.length e) | (obtain ⟨_, _, _, _, _, _, _, e, _⟩ := h; exact congrArg List.length e) | (obtain ⟨_, _, _, _, _, _, _, _, e, _⟩ := h; exact congrArg List.length e) | (obtain ⟨_, _, _, _, _, _, _, _, _, e, _⟩ := h; exact congrArg List.length e) | (obtain ⟨_, _, _, _, _, _, _, _, _, _, e, _⟩ := h; exact congrArg List.length e))) (pf__law_lift d)
theorem c__law_put (h : Hd P w K mg base T) : ∀ d, CalA P w K mg base T (d + 103) "_law_put" (sp__law_put d K)
  | 0 => cal_none (ps := ["part", "other", "at"]) h.D__law_put (fun _ _ _ _ _ _ us hl => match us, hl with | [_, _, _], _ => rfl) fun va S R RE z => by
    obtain ⟨x, _, _, _, hd, _⟩ := z
    have := x.deep_pos'
    omega
  | d + 1 => ok__law_put h ((c__law_lift h 100).mono (by omega)) (c__law_put h d) (fun va S R RE h => by (first | (obtain ⟨_, e, _⟩ := h; exact congrArg List.length e) | (obtain ⟨_, _, e, _⟩ := h; exact congrArg List.length e) | (obtain ⟨_, _, _, e, _⟩ := h; exact congrArg List.length e) | (obtain ⟨_, _, _, _, e, _⟩ := h; exact congrArg List.length e) | (obtain ⟨_, _, _, _, _, e, _⟩ := h; exact congrArg List.length e) | (obtain ⟨_, _, _, _, _, _, e, _⟩ := h; exact congrArg List.length e) | (obtain ⟨_, _, _, _, _, _, _, e, _⟩ := h; exact congrArg List.length e) | (obtain ⟨_, _, _, _, _, _, _, _, e, _⟩ := h; exact congrArg List.length e) | (obtain ⟨_, _, _, _, _, _, _, _, _, e, _⟩ := h; exact congrArg List.length e) | (obtain ⟨_, _, _, _, _, _, _, _, _, _, e, _⟩ := h; exact congrArg List.length e))) (pf__law_put d)
theorem c__law_is_step (h : Hd P w K mg base T) : CalA P w K mg base T 2 "_law_is_step" (sp__law_is_step K) := ok__law_is_step h (k := 1) ((c__law_is_name h).mono (by decide)) (fun va S R RE h => by (first | (obtain ⟨_, e, _⟩ := h; exact congrArg List.length e) | (obtain ⟨_, _, e, _⟩ := h; exact congrArg List.length e) | (obtain ⟨_, _, _, e, _⟩ := h; exact congrArg List.length e) | (obtain ⟨_, _, _, _, e, _⟩ := h; exact congrArg List.length e) | (obtain ⟨_, _, _, _, _, e, _⟩ := h; exact congrArg List.length e) | (obtain ⟨_, _, _, _, _, _, e, _⟩ := h; exact congrArg List.length e) | (obtain ⟨_, _, _, _, _, _, _, e, _⟩ := h; exact congrArg List.length e) | (obtain ⟨_, _, _, _, _, _, _, _, e, _⟩ := h; exact congrArg List.length e) | (obtain ⟨_, _, _, _, _, _, _, _, _, e, _⟩ := h; exact congrArg List.length e) | (obtain ⟨_, _, _, _, _, _, _, _, _, _, e, _⟩ := h; exact congrArg List.length e))) pf__law_is_step
theorem c__law_step (h : Hd P w K mg base T) : ∀ d, CalA P w K mg base T (d + 103) "_law_step" (sp__law_step d K)
  | 0 => cal_none (ps := ["part", "path"]) h.D__law_step (fun _ _ _ _ _ _ us hl => match us, hl with | [_, _], _ => rfl) fun va S R RE z => by
    obtain ⟨_, _, _, _, _, _, _, hq, _⟩ := z
    omega
  | d + 1 => ok__law_step h ((c__law_put h d).mono (by omega)) (c__law_step h d) (fun va S R RE h => by (first | (obtain ⟨_, e, _⟩ := h; exact congrArg List.length e) | (obtain ⟨_, _, e, _⟩ := h; exact congrArg List.length e) | (obtain ⟨_, _, _, e, _⟩ := h; exact congrArg List.length e) | (obtain ⟨_, _, _, _, e, _⟩ := h; exact congrArg List.length e) | (obtain ⟨_, _, _, _, _, e, _⟩ := h; exact congrArg List.length e) | (obtain ⟨_, _, _, _, _, _, e, _⟩ := h; exact congrArg List.length e) | (obtain ⟨_, _, _, _, _, _, _, e, _⟩ := h; exact congrArg List.length e) | (obtain ⟨_, _, _, _, _, _, _, _, e, _⟩ := h; exact congrArg List.length e) | (obtain ⟨_, _, _, _, _, _, _, _, _, e, _⟩ := h; exact congrArg List.length e) | (obtain ⟨_, _, _, _, _, _, _, _, _, _, e, _⟩ := h; exact congrArg List.length e))) (pf__law_step d)
theorem c__law_head (h : Hd P w K mg base T) : CalA P w K mg base T 3 "_law_head" (sp__law_head K) := ok__law_head h (k := 2) ((c__law_is_name h).mono (by decide)) ((c__law_is_step h).mono (by decide)) (fun va S R RE h => by (first | (obtain ⟨_, e, _⟩ := h; exact congrArg List.length e) | (obtain ⟨_, _, e, _⟩ := h; exact congrArg List.length e) | (obtain ⟨_, _, _, e, _⟩ := h; exact congrArg List.length e) | (obtain ⟨_, _, _, _, e, _⟩ := h; exact congrArg List.length e) | (obtain ⟨_, _, _, _, _, e, _⟩ := h; exact congrArg List.length e) | (obtain ⟨_, _, _, _, _, _, e, _⟩ := h; exact congrArg List.length e) | (obtain ⟨_, _, _, _, _, _, _, e, _⟩ := h; exact congrArg List.length e) | (obtain ⟨_, _, _, _, _, _, _, _, e, _⟩ := h; exact congrArg List.length e) | (obtain ⟨_, _, _, _, _, _, _, _, _, e, _⟩ := h; exact congrArg List.length e) | (obtain ⟨_, _, _, _, _, _, _, _, _, _, e, _⟩ := h; exact congrArg List.length e))) pf__law_head
theorem c__law_told (h : Hd P w K mg base T) : CalA P w K mg base T 204 "_law_told" (sp__law_told K) := ok__law_told h (k := 203) ((c__law_head h).mono (by decide)) ((c__law_step h 100).mono (by decide)) ((c__law_size h 200).mono (by decide)) ((c__law_deep h 200).mono (by decide)) (fun va S R RE h => by (first | (obtain ⟨_, e, _⟩ := h; exact congrArg List.length e) | (obtain ⟨_, _, e, _⟩ := h; exact congrArg List.length e) | (obtain ⟨_, _, _, e, _⟩ := h; exact congrArg List.length e) | (obtain ⟨_, _, _, _, e, _⟩ := h; exact congrArg List.length e) | (obtain ⟨_, _, _, _, _, e, _⟩ := h; exact congrArg List.length e) | (obtain ⟨_, _, _, _, _, _, e, _⟩ := h; exact congrArg List.length e) | (obtain ⟨_, _, _, _, _, _, _, e, _⟩ := h; exact congrArg List.length e) | (obtain ⟨_, _, _, _, _, _, _, _, e, _⟩ := h; exact congrArg List.length e) | (obtain ⟨_, _, _, _, _, _, _, _, _, e, _⟩ := h; exact congrArg List.length e) | (obtain ⟨_, _, _, _, _, _, _, _, _, _, e, _⟩ := h; exact congrArg List.length e))) pf__law_told
theorem c__law_term_right (h : Hd P w K mg base T) : CalA P w K mg base T 205 "_law_term_right" (sp__law_term_right K) := ok__law_term_right h (k := 204) ((c__law_told h).mono (by decide)) ((c__law_plain h).mono (by decide)) ((c_has_head h).mono (by decide)) ((c_head_told h).mono (by decide)) ((c__law_is h 120).mono (by decide)) ((c__law_size h 200).mono (by decide)) ((c__law_deep h 200).mono (by decide)) (fun va S R RE h => by (first | (obtain ⟨_, e, _⟩ := h; exact congrArg List.length e) | (obtain ⟨_, _, e, _⟩ := h; exact congrArg List.length e) | (obtain ⟨_, _, _, e, _⟩ := h; exact congrArg List.length e) | (obtain ⟨_, _, _, _, e, _⟩ := h; exact congrArg List.length e) | (obtain ⟨_, _, _, _, _, e, _⟩ := h; exact congrArg List.length e) | (obtain ⟨_, _, _, _, _, _, e, _⟩ := h; exact congrArg List.length e) | (obtain ⟨_, _, _, _, _, _, _, e, _⟩ := h; exact congrArg List.length e) | (obtain ⟨_, _, _, _, _, _, _, _, e, _⟩ := h; exact congrArg List.length e) | (obtain ⟨_, _, _, _, _, _, _, _, _, e, _⟩ := h; exact congrArg List.length e) | (obtain ⟨_, _, _, _, _, _, _, _, _, _, e, _⟩ := h; exact congrArg List.length e))) pf__law_term_right
theorem c__law_case_right (h : Hd P w K mg base T) : CalA P w K mg base T 206 "_law_case_right" (sp__law_case_right K) := ok__law_case_right h (k := 205) ((c__law_term h 5).mono (by decide)) ((c__law_indexed h 110).mono (by decide)) ((c__law_size h 200).mono (by decide)) ((c__law_term_right h).mono (by decide)) ((c__law_draw h).mono (by decide)) ((c__law_told h).mono (by decide)) ((c__law_plain h).mono (by decide)) ((c_head_after h).mono (by decide)) ((c__law_is h 120).mono (by decide)) (fun va S R RE h => by (first | (obtain ⟨_, e, _⟩ := h; exact congrArg List.length e) | (obtain ⟨_, _, e, _⟩ := h; exact congrArg List.length e) | (obtain ⟨_, _, _, e, _⟩ := h; exact congrArg List.length e) | (obtain ⟨_, _, _, _, e, _⟩ := h; exact congrArg List.length e) | (obtain ⟨_, _, _, _, _, e, _⟩ := h; exact congrArg List.length e) | (obtain ⟨_, _, _, _, _, _, e, _⟩ := h; exact congrArg List.length e) | (obtain ⟨_, _, _, _, _, _, _, e, _⟩ := h; exact congrArg List.length e) | (obtain ⟨_, _, _, _, _, _, _, _, e, _⟩ := h; exact congrArg List.length e) | (obtain ⟨_, _, _, _, _, _, _, _, _, e, _⟩ := h; exact congrArg List.length e) | (obtain ⟨_, _, _, _, _, _, _, _, _, _, e, _⟩ := h; exact congrArg List.length e))) pf__law_case_right
theorem law_ok (x : XF K) (h : Hd P w K mg base T) : FnA P w K mg base T room "law" s_law ["script"] (lawSp 63) :=
  ok_law h (j := 206) (k := 208) (by decide) ((c__law_hand h).mono (by decide)) ((c_head_told h).mono (by decide)) ((c_has_head h).mono (by decide)) ((c__law_is h 120).mono (by decide)) ((c_head_after h).mono (by decide)) ((c__law_any h).mono (by decide)) ((c__law_case_right h).mono (by decide)) (fun va S R RE h => by (first | (obtain ⟨_, e, _⟩ := h; exact congrArg List.length e) | (obtain ⟨_, _, e, _⟩ := h; exact congrArg List.length e) | (obtain ⟨_, _, _, e, _⟩ := h; exact congrArg List.length e) | (obtain ⟨_, _, _, _, e, _⟩ := h; exact congrArg List.length e) | (obtain ⟨_, _, _, _, _, e, _⟩ := h; exact congrArg List.length e) | (obtain ⟨_, _, _, _, _, _, e, _⟩ := h; exact congrArg List.length e) | (obtain ⟨_, _, _, _, _, _, _, e, _⟩ := h; exact congrArg List.length e) | (obtain ⟨_, _, _, _, _, _, _, _, e, _⟩ := h; exact congrArg List.length e) | (obtain ⟨_, _, _, _, _, _, _, _, _, e, _⟩ := h; exact congrArg List.length e) | (obtain ⟨_, _, _, _, _, _, _, _, _, _, e, _⟩ := h; exact congrArg List.length e))) (pf_law x)
end
end G

set_option Elab.async false
set_option linter.all false
set_option maxRecDepth 100000
set_option maxHeartbeats 0
open PySem PySem.W PySem.Calls PyProof.Rows
theorem PySem.Challenge.cw_withterms_k19_whole_steps_at_the_head_holds : PySem.Challenge.rw_withterms_k19_whole_steps_at_the_head.Holds := by
  w_on; o_law
  refine HandSHeadRun.head_any (r := OpenLaw.row PySem.Challenge.rw_withterms_k19_whole_steps_at_the_head) (q := view (OpenLaw.row PySem.Challenge.rw_withterms_k19_whole_steps_at_the_head).prog [63]) (H := G.hk) (ob := G.ob) (M := 7400) (loose := G.loose) (d := HandSHeadRun.topDef (OpenLaw.row PySem.Challenge.rw_withterms_k19_whole_steps_at_the_head).prog 63) (kwd := []) G.ob_eq
    (by kernel_rfl) (fun s => by kernel_rfl) G.run (by kernel_rfl) (by kernel_rfl) (by kernel_rfl) (by rfl) (by first | assumption | decide +kernel) (by decide +kernel) ⟨rfl, rfl, rfl, rfl, rfl, by decide +kernel⟩ ?hw ?hc
  case hw => w_witness2
  case hc =>
    refine A3.walk_G (l := PySem.Challenge.rw_withterms_k19_whole_steps_at_the_head) (n := 63) (k := G.room) (y := "script") (Cr := fun w => L2.CX (PySem.Challenge.rw_withterms_k19_whole_steps_at_the_head).prog w) rfl (by decide) (by kernel_rfl) ⟨rfl, by decide, by decide⟩ ?F (fun _ _ _ _ _ z => A3.noCX z)
    intro w mg fa h Y Gn hmg0
    obtain ⟨K, KX, c⟩ := Y
    have hmg : mg ("law" : PySem.Str) = some (.ref fa) := by
      have e : (HandSHeadRun.topDef (OpenLaw.row PySem.Challenge.rw_withterms_k19_whole_steps_at_the_head).prog 63).name = ("law" : PySem.Str) := by kernel_rfl
      rw [← e]
      exact hmg0
    have ec : ∀ p ∈ G.css K, ∃ d ∈ G.tfs, He.cT K d = p := fun p hp => List.mem_map.mp hp
    refine ⟨K, KX, A3.law_at (T := G.tbs K) (cs := G.css K) (st := G.s_law) (G.dlaw KX Gn c) hmg (G.exs_at c.more 1) G.tbs_css (fun p hp => ?_) (fun p hp => ?_) (fun p hp => ?_) (fun _ _ _ _ _ _ us hl => match us, hl with | [_], _ => rfl) fun base Xb Gb TB => G.law_ok (G.xf_of c.more) (G.hd_of KX Gn c TB)⟩
    · obtain ⟨d, hd, rfl⟩ := ec p hp
      exact c.empty d hd
    · obtain ⟨d, hd, rfl⟩ := ec p hp
      exact c.out d hd
    · obtain ⟨d, hd, rfl⟩ := ec p hp
      exact codeHd_of_K KX (c.hd d hd)
