import PyProof.Rows.All
import HandS.ForMost
import HandS.IsInst
import HandS.Wide
import HandS.DictComp
import HandS.Remove
import HandS.More
import KE.DataFind
import PyProof.Rows.ListStrD
import HandS.Style
import KE.KDictSum
import Wide.All
import OpenK.AllK
import Wide.FinOn
import PySem.Challenge.RW_gotfrom_k43_whole_great_lost_lists
set_option Elab.async false
set_option linter.all false
section
set_option maxRecDepth 100000
/-! Q1: values as trees over the hand layer: shared trees (Rep), owned trees (Own), the state (SR), a step (Step), lifted readings. -/
namespace Q
open PySem L2

/-- a value with all that hangs at it -/
inductive T where
  | av (v : V)
  | lst (ts : List T)
  | tup (ts : List T)
  | dct (ks : List Key) (ts : List T)
  | dtt (ks : List (List Key)) (ts : List T)
  | obj (C : Addr) (ns : List Str) (ts : List T)
  /-- a list that is only read (the script) -/
  | rd (ts : List T)

abbrev T.non : T := .av .non
abbrev T.bl (b : Bool) : T := .av (.bl b)
abbrev T.int (i : Int) : T := .av (.int i)
abbrev T.str (x : Str) : T := .av (.str x)

-- v is the tree t, all of it read in F
mutual
def Rep (K : PySem.W.Frag) (F : Hp) : V → T → Prop
  | v, .av x => v = x
  | v, .lst ts => ∃ a vs, v = .ref a ∧ F a = some (.lst vs) ∧ RepL K F vs ts
  | v, .tup ts => ∃ a vs, v = .ref a ∧ F a = some (.tup vs) ∧ RepL K F vs ts
  | v, .dct ks ts => ∃ a vs, v = .ref a ∧ Rd F a (.dK (ks.zip vs)) ∧ ks.length = vs.length ∧ RepL K F vs ts
  | v, .dtt ks ts => ∃ a vs, v = .ref a ∧ Rd F a (.dT (ks.zip vs)) ∧ ks.length = vs.length ∧ RepL K F vs ts
  | v, .obj C ns ts => ∃ a dx vs, v = .ref a ∧ F a = some (.ins C dx (ns.zip vs)) ∧ ns.length = vs.length ∧ RepL K F vs ts
  | v, .rd ts => ∃ a vs, v = .ref a ∧ SqL K F a vs ∧ RepL K F vs ts
def RepL (K : PySem.W.Frag) (F : Hp) : List V → List T → Prop
  | vs, [] => vs = []
  | vs, t :: ts => ∃ v r, vs = v :: r ∧ Rep K F v t ∧ RepL K F r ts
end

mutual
def Own (H : Hp) : V → T → List Addr → Prop
  | v, .av x, A => v = x ∧ A = []
  | v, .lst ts, A => ∃ a vs B, v = .ref a ∧ A = a :: B ∧ H a = some (.lst vs) ∧ OwnL H vs ts B
  | v, .tup ts, A => ∃ a vs B, v = .ref a ∧ A = a :: B ∧ H a = some (.tup vs) ∧ OwnL H vs ts B
  | v, .dct ks ts, A => ∃ a vs B, v = .ref a ∧ A = a :: B ∧ H a = some (.dK (ks.zip vs)) ∧ ks.length = vs.length ∧ OwnL H vs ts B
  | v, .dtt ks ts, A => ∃ a vs B, v = .ref a ∧ A = a :: B ∧ H a = some (.dT (ks.zip vs)) ∧ ks.length = vs.length ∧ OwnL H vs ts B
  | v, .obj C ns ts, A => ∃ a dx vs B, v = .ref a ∧ A = a :: dx :: B ∧ H a = some (.ins C dx (ns.zip vs)) ∧ H dx = some (.own a) ∧ ns.length = vs.length ∧ OwnL H vs ts B
  | _, .rd _, _ => False
def OwnL (H : Hp) : List V → List T → List Addr → Prop
  | vs, [], A => vs = [] ∧ A = []
  | vs, t :: ts, A => ∃ v r B C, vs = v :: r ∧ A = B ++ C ∧ Own H v t B ∧ OwnL H r ts C
end

theorem Rd.mono {F F' : Hp} {a : Addr} {u : HO} (s : Same F F') (h : Rd F a u) : Rd F' a u := by
  rcases h with h | ⟨o, h⟩
  · exact .inl (s _ _ h)
  · exact .inr ⟨o, s _ _ h⟩
theorem SqT.mono {K : PySem.W.Frag} {H H' : Hp} {a : Addr} {xs : List V} (e : Same H H') (h : SqT K H a xs) : SqT K H' a xs := by
  rcases h with h | h
  · exact .inl (Rd.mono e h)
  · exact .inr h

mutual
theorem Rep.mono {K : PySem.W.Frag} {F F' : Hp} (s : Same F F') : ∀ {t : T} {v : V}, Rep K F v t → Rep K F' v t
  | .av x, v, h => by simpa only [Rep] using h
  | .lst ts, v, h => by
    simp only [Rep] at h ⊢
    obtain ⟨a, vs, e, q, r⟩ := h
    exact ⟨a, vs, e, s _ _ q, RepL.mono s r⟩
  | .tup ts, v, h => by
    simp only [Rep] at h ⊢
    obtain ⟨a, vs, e, q, r⟩ := h
    exact ⟨a, vs, e, s _ _ q, RepL.mono s r⟩
  | .dct ks ts, v, h => by
    simp only [Rep] at h ⊢
    obtain ⟨a, vs, e, q, l, r⟩ := h
    exact ⟨a, vs, e, Rd.mono s q, l, RepL.mono s r⟩
  | .dtt ks ts, v, h => by
    simp only [Rep] at h ⊢
    obtain ⟨a, vs, e, q, l, r⟩ := h
    exact ⟨a, vs, e, Rd.mono s q, l, RepL.mono s r⟩
  | .obj C ns ts, v, h => by
    simp only [Rep] at h ⊢
    obtain ⟨a, dx, vs, e, q, l, r⟩ := h
    exact ⟨a, dx, vs, e, s _ _ q, l, RepL.mono s r⟩
  | .rd ts, v, h => by
    simp only [Rep] at h ⊢
    obtain ⟨a, vs, e, q, r⟩ := h
    exact ⟨a, vs, e, s.seq q, RepL.mono s r⟩
theorem RepL.mono {K : PySem.W.Frag} {F F' : Hp} (s : Same F F') : ∀ {ts : List T} {vs : List V}, RepL K F vs ts → RepL K F' vs ts
  | [], vs, h => by simpa only [RepL] using h
  | t :: ts, vs, h => by
    simp only [RepL] at h ⊢
    obtain ⟨v, r, e, q, p⟩ := h
    exact ⟨v, r, e, Rep.mono s q, RepL.mono s p⟩
end

-- an owned tree stands as long as its own places do
mutual
theorem Own.keep {H H' : Hp} : ∀ {t : T} {v : V} {A : List Addr}, Own H v t A → (∀ a ∈ A, H' a = H a) → Own H' v t A
  | .av x, v, A, h, _ => by simpa only [Own] using h
  | .lst ts, v, A, h, s => by
    simp only [Own] at h ⊢
    obtain ⟨a, vs, B, e, rfl, q, r⟩ := h
    exact ⟨a, vs, B, e, rfl, (s a (List.mem_cons_self)).trans q, OwnL.keep r fun b hb => s b (List.mem_cons_of_mem _ hb)⟩
  | .tup ts, v, A, h, s => by
    simp only [Own] at h ⊢
    obtain ⟨a, vs, B, e, rfl, q, r⟩ := h
    exact ⟨a, vs, B, e, rfl, (s a (List.mem_cons_self)).trans q, OwnL.keep r fun b hb => s b (List.mem_cons_of_mem _ hb)⟩
  | .dct ks ts, v, A, h, s => by
    simp only [Own] at h ⊢
    obtain ⟨a, vs, B, e, rfl, q, l, r⟩ := h
    exact ⟨a, vs, B, e, rfl, (s a (List.mem_cons_self)).trans q, l, OwnL.keep r fun b hb => s b (List.mem_cons_of_mem _ hb)⟩
  | .dtt ks ts, v, A, h, s => by
    simp only [Own] at h ⊢
    obtain ⟨a, vs, B, e, rfl, q, l, r⟩ := h
    exact ⟨a, vs, B, e, rfl, (s a (List.mem_cons_self)).trans q, l, OwnL.keep r fun b hb => s b (List.mem_cons_of_mem _ hb)⟩
  | .obj C ns ts, v, A, h, s => by
    simp only [Own] at h ⊢
    obtain ⟨a, dx, vs, B, e, rfl, q, d, l, r⟩ := h
    exact ⟨a, dx, vs, B, e, rfl, (s a (List.mem_cons_self)).trans q, (s dx (by simp)).trans d, l, OwnL.keep r fun b hb => s b (by simp [hb])⟩
  | .rd ts, v, A, h, s => by simp only [Own] at h
theorem OwnL.keep {H H' : Hp} : ∀ {ts : List T} {vs : List V} {A : List Addr}, OwnL H vs ts A → (∀ a ∈ A, H' a = H a) → OwnL H' vs ts A
  | [], vs, A, h, _ => by simpa only [OwnL] using h
  | t :: ts, vs, A, h, s => by
    simp only [OwnL] at h ⊢
    obtain ⟨v, r, B, C, e, rfl, q, p⟩ := h
    exact ⟨v, r, B, C, e, rfl, Own.keep q fun a ha => s a (List.mem_append_left _ ha), OwnL.keep p fun a ha => s a (List.mem_append_right _ ha)⟩
end

-- an owned tree is shared from now on
mutual
theorem Own.rep {K : PySem.W.Frag} {H F : Hp} : ∀ {t : T} {v : V} {A : List Addr}, Own H v t A → (∀ a ∈ A, ∀ o, H a = some o → F a = some o) → Rep K F v t
  | .av x, v, A, h, _ => by simp only [Own] at h; simp only [Rep]; exact h.1
  | .lst ts, v, A, h, s => by
    simp only [Own] at h; simp only [Rep]
    obtain ⟨a, vs, B, e, rfl, q, r⟩ := h
    exact ⟨a, vs, e, s a (List.mem_cons_self) _ q, OwnL.rep r fun b hb => s b (List.mem_cons_of_mem _ hb)⟩
  | .tup ts, v, A, h, s => by
    simp only [Own] at h; simp only [Rep]
    obtain ⟨a, vs, B, e, rfl, q, r⟩ := h
    exact ⟨a, vs, e, s a (List.mem_cons_self) _ q, OwnL.rep r fun b hb => s b (List.mem_cons_of_mem _ hb)⟩
  | .dct ks ts, v, A, h, s => by
    simp only [Own] at h; simp only [Rep]
    obtain ⟨a, vs, B, e, rfl, q, l, r⟩ := h
    exact ⟨a, vs, e, .of (s a (List.mem_cons_self) _ q), l, OwnL.rep r fun b hb => s b (List.mem_cons_of_mem _ hb)⟩
  | .dtt ks ts, v, A, h, s => by
    simp only [Own] at h; simp only [Rep]
    obtain ⟨a, vs, B, e, rfl, q, l, r⟩ := h
    exact ⟨a, vs, e, .of (s a (List.mem_cons_self) _ q), l, OwnL.rep r fun b hb => s b (List.mem_cons_of_mem _ hb)⟩
  | .obj C ns ts, v, A, h, s => by
    simp only [Own] at h; simp only [Rep]
    obtain ⟨a, dx, vs, B, e, rfl, q, d, l, r⟩ := h
    exact ⟨a, dx, vs, e, s a (List.mem_cons_self) _ q, l, OwnL.rep r fun b hb => s b (by simp [hb])⟩
  | .rd ts, v, A, h, s => by simp only [Own] at h
theorem OwnL.rep {K : PySem.W.Frag} {H F : Hp} : ∀ {ts : List T} {vs : List V} {A : List Addr}, OwnL H vs ts A → (∀ a ∈ A, ∀ o, H a = some o → F a = some o) → RepL K F vs ts
  | [], vs, A, h, _ => by simp only [OwnL] at h; simp only [RepL]; exact h.1
  | t :: ts, vs, A, h, s => by
    simp only [OwnL] at h; simp only [RepL]
    obtain ⟨v, r, B, C, e, rfl, q, p⟩ := h
    exact ⟨v, r, e, Own.rep q fun a ha => s a (List.mem_append_left _ ha), OwnL.rep p fun a ha => s a (List.mem_append_right _ ha)⟩
end
-- an owned tree's places are tracked
mutual
theorem Own.there {H : Hp} : ∀ {t : T} {v : V} {A : List Addr}, Own H v t A → ∀ a ∈ A, H a ≠ none
  | .av x, v, A, h => by simp only [Own] at h; rw [h.2]; simp
  | .lst ts, v, A, h => by
    simp only [Own] at h
    obtain ⟨a, vs, B, e, rfl, q, r⟩ := h
    intro b hb
    rcases List.mem_cons.mp hb with rfl | hb
    · simp [q]
    · exact OwnL.there r b hb
  | .tup ts, v, A, h => by
    simp only [Own] at h
    obtain ⟨a, vs, B, e, rfl, q, r⟩ := h
    intro b hb
    rcases List.mem_cons.mp hb with rfl | hb
    · simp [q]
    · exact OwnL.there r b hb
  | .dct ks ts, v, A, h => by
    simp only [Own] at h
    obtain ⟨a, vs, B, e, rfl, q, l, r⟩ := h
    intro b hb
    rcases List.mem_cons.mp hb with rfl | hb
    · simp [q]
    · exact OwnL.there r b hb
  | .dtt ks ts, v, A, h => by
    simp only [Own] at h
    obtain ⟨a, vs, B, e, rfl, q, l, r⟩ := h
    intro b hb
    rcases List.mem_cons.mp hb with rfl | hb
    · simp [q]
    · exact OwnL.there r b hb
  | .obj C ns ts, v, A, h => by
    simp only [Own] at h
    obtain ⟨a, dx, vs, B, e, rfl, q, d, l, r⟩ := h
    intro b hb
    rcases List.mem_cons.mp hb with rfl | hb
    · simp [q]
    · rcases List.mem_cons.mp hb with rfl | hb
      · simp [d]
      · exact OwnL.there r b hb
  | .rd ts, v, A, h => by simp only [Own] at h
theorem OwnL.there {H : Hp} : ∀ {ts : List T} {vs : List V} {A : List Addr}, OwnL H vs ts A → ∀ a ∈ A, H a ≠ none
  | [], vs, A, h => by simp only [OwnL] at h; rw [h.2]; simp
  | t :: ts, vs, A, h => by
    simp only [OwnL] at h
    obtain ⟨v, r, B, C, e, rfl, q, p⟩ := h
    intro b hb
    rcases List.mem_append.mp hb with hb | hb
    · exact Own.there q b hb
    · exact OwnL.there p b hb
end

/-! ### the state -/
/-- a slot: owned (true) or shared, and its tree -/
abbrev R := Bool × T
abbrev Env := List (Option R)
/-- a value as r says: owned with its places, or shared -/
def Res (K : PySem.W.Frag) (F H : Hp) (r : R) (v : V) (A : List Addr) : Prop :=
  if r.1 = true then Own H v r.2 A else A = [] ∧ Rep K F v r.2
structure SR (K : PySem.W.Frag) (σ : St) (H F : Hp) (A : Addr → Prop) (env : Env) : Prop where
  fh : Same F H
  ah : ∀ a, A a → H a ≠ none
  le : env.length ≤ σ.length
  sl : ∃ As : Nat → List Addr, (∀ i r, env[i]? = some (some r) → ∃ v, σ[i]? = some (some v) ∧ Res K F H r v (As i)) ∧ (∀ i, (As i).Nodup) ∧
    (∀ i j, i ≠ j → ∀ a ∈ As i, a ∉ As j) ∧ ∀ i, ∀ a ∈ As i, A a ∧ F a = none
/-- from one state to a later one -/
structure Step (H F : Hp) (A : Addr → Prop) (H' F' : Hp) (A' : Addr → Prop) : Prop where
  ff : Same F F'
  hh : ∀ b o, H b = some o → ¬ A b → H' b = some o
  dom : ∀ b, H b ≠ none → H' b ≠ none
  an : ∀ b, A' b → A b ∨ H b = none
  fn : ∀ b o, F' b = some o → F b = some o ∨ H b = none ∨ A b
theorem Step.refl {H F : Hp} {A : Addr → Prop} : Step H F A H F A := ⟨.refl _, fun _ _ h _ => h, fun _ h => h, fun _ h => .inl h, fun _ _ h => .inl h⟩
theorem Step.trans {H F H1 F1 H2 F2 : Hp} {A A1 A2 : Addr → Prop} (a : Step H F A H1 F1 A1) (b : Step H1 F1 A1 H2 F2 A2) : Step H F A H2 F2 A2 where
  ff := a.ff.trans b.ff
  hh := fun c o h n => b.hh c o (a.hh c o h n) fun q => (a.an c q).elim n fun z => by rw [h] at z; cases z
  dom := fun c h => b.dom c (a.dom c h)
  an := fun c h => by
    rcases b.an c h with q | q
    · exact a.an c q
    · refine .inr ?_
      cases e : H c with
      | none => rfl
      | some o => exact absurd q (a.dom c (by simp [e]))
  fn := fun c o h => by
    rcases b.fn c o h with q | q | q
    · exact a.fn c o q
    · refine .inr (.inl ?_)
      cases e : H c with
      | none => rfl
      | some o => exact absurd q (a.dom c (by simp [e]))
    · exact .inr (a.an c q).symm
/-- what is neither shared nor owned stays so -/
theorem Step.stays {H F H' F' : Hp} {A A' : Addr → Prop} (st : Step H F A H' F' A') {b : Addr} (f : F b = Option.none) (h : H b ≠ Option.none) (n : ¬ A b) : F' b = Option.none := by
  cases z : F' b with
  | none => rfl
  | some o =>
    rcases st.fn b o z with y | y | y
    · rw [f] at y; cases y
    · exact absurd y h
    · exact absurd y n
/-- what is new or owned at a later time is so now -/
theorem Step.src {H F H' F' : Hp} {A A' : Addr → Prop} (st : Step H F A H' F' A') {b : Addr} (h : H' b = Option.none ∨ A' b) : H b = Option.none ∨ A b := by
  rcases h with h | h
  · cases e : H b with
    | none => exact .inl rfl
    | some o => exact absurd h (st.dom b (by simp [e]))
  · exact (st.an b h).symm

theorem Res.tt {K : PySem.W.Frag} {F H : Hp} {t : T} {v : V} {A : List Addr} : Res K F H (true, t) v A = Own H v t A := by simp [Res]
theorem Res.ff {K : PySem.W.Frag} {F H : Hp} {t : T} {v : V} {A : List Addr} : Res K F H (false, t) v A = (A = [] ∧ Rep K F v t) := by simp [Res]
theorem Res.there {K : PySem.W.Frag} {F H : Hp} {r : R} {v : V} {A : List Addr} (h : Res K F H r v A) : ∀ a ∈ A, H a ≠ none := by
  obtain ⟨b, t⟩ := r
  cases b with
  | true => rw [Res.tt] at h; exact Own.there h
  | false => rw [Res.ff] at h; rw [h.1]; simp
/-- it stands through a step that does not touch its places -/
theorem Res.go {K : PySem.W.Frag} {F H F' H' : Hp} {r : R} {v : V} {A : List Addr} (h : Res K F H r v A) (s : Same F F') (k : ∀ a ∈ A, H' a = H a) : Res K F' H' r v A := by
  obtain ⟨b, t⟩ := r
  cases b with
  | true => rw [Res.tt] at h ⊢; exact Own.keep h k
  | false => rw [Res.ff] at h ⊢; exact ⟨h.1, Rep.mono s h.2⟩
/-- read in a heap that has both -/
theorem Res.rep {K : PySem.W.Frag} {F H G : Hp} {r : R} {v : V} {A : List Addr} (h : Res K F H r v A) (s : Same F G) (k : ∀ a ∈ A, ∀ o, H a = some o → G a = some o) : Rep K G v r.2 := by
  obtain ⟨b, t⟩ := r
  cases b with
  | true => rw [Res.tt] at h; exact Own.rep h k
  | false => rw [Res.ff] at h; exact Rep.mono s h.2
theorem Res.av {K : PySem.W.Frag} {F H : Hp} {b : Bool} {x v : V} {A : List Addr} (h : Res K F H (b, .av x) v A) : v = x ∧ A = [] := by
  cases b with
  | true => rw [Res.tt] at h; simpa only [Own] using h
  | false => rw [Res.ff] at h; simp only [Rep] at h; exact ⟨h.2, h.1⟩
theorem Res.of_av {K : PySem.W.Frag} {F H : Hp} {b : Bool} {x : V} : Res K F H (b, .av x) x [] := by
  cases b with
  | true => rw [Res.tt]; simp [Own]
  | false => rw [Res.ff]; simp [Rep]

/-- behind an evaluation: the state, and the value with its own new places -/
def Out (K : PySem.W.Frag) (σ : St) (H F : Hp) (A : Addr → Prop) (r : R) (env : Env) (v : V) (H' : Hp) : Prop :=
  ∃ (F' : Hp) (A' : Addr → Prop) (Ar : List Addr), SR K σ H' F' A' env ∧ Step H F A H' F' A' ∧ Res K F' H' r v Ar ∧ Ar.Nodup ∧ ∀ a ∈ Ar, (H a = none ∨ A a) ∧ ¬ A' a ∧ F' a = none
abbrev QK := R → Env → Prop
abbrev TQ := Env → QK → Prop
def lift (K : PySem.W.Frag) (τ : TQ) : TE := fun σ H Rk => ∃ (F : Hp) (A : Addr → Prop) (env : Env) (Q : QK), SR K σ H F A env ∧ τ env Q ∧
  ∀ r env' v H', Q r env' → Out K σ H F A r env' v H' → Rk v H'
theorem weakE {X : Cx} {e : Expr} {t t' : TE} (h : PE X e t) (w : ∀ σ H Rk, t' σ H Rk → t σ H Rk) : PE X e t' := ⟨fun pins s σ H Rk I q => h.run pins s σ H Rk I (w σ H Rk q)⟩
theorem weakT {X : Cx} {e : Expr} {t t' : TT} (h : PT X e t) (w : ∀ σ H Rk, t' σ H Rk → t σ H Rk) : PT X e t' := ⟨fun pins s σ H Rk I q => h.run pins s σ H Rk I (w σ H Rk q)⟩
theorem weakS {X : Cx} {e : Stmt} {t t' : TS} (h : PS X e t) (w : ∀ D σ H, t' D σ H → t D σ H) : PS X e t' := ⟨fun pins s σ H D I q => h.run pins s σ H D I (w D σ H q)⟩
theorem weakSs {X : Cx} {e : List Stmt} {t t' : TS} (h : PSs X e t) (w : ∀ D σ H, t' D σ H → t D σ H) : PSs X e t' := ⟨fun pins s σ H D I q => h.run pins s σ H D I (w D σ H q)⟩
/-- an expression, over trees -/
def QE (X : Cx) (e : Expr) (τ : TQ) : Prop := PE X e (lift X.K τ)

/-- new places are shared from now on -/
def grow (F H : Hp) (B : List Addr) : Hp := fun b => if b ∈ B then H b else F b
theorem grow_mem {F H : Hp} {B : List Addr} {b : Addr} (h : b ∈ B) : grow F H B b = H b := by simp [grow, h]
theorem grow_not {F H : Hp} {B : List Addr} {b : Addr} (h : b ∉ B) : grow F H B b = F b := by simp [grow, h]
theorem grow_same {F H : Hp} {B : List Addr} (n : ∀ a ∈ B, F a = none) : Same F (grow F H B) := fun b o h => by
  rw [grow_not fun q => by rw [n b q] at h; cases h]; exact h
theorem grow_in {F H : Hp} {B : List Addr} (s : Same F H) : Same (grow F H B) H := fun b o h => by
  by_cases q : b ∈ B
  · rwa [grow_mem q] at h
  · rw [grow_not q] at h; exact s b o h
theorem SR.grow {K : PySem.W.Frag} {σ : St} {H F : Hp} {A : Addr → Prop} {env : Env} {B : List Addr} (S : SR K σ H F A env) (n : ∀ a ∈ B, F a = none ∧ ¬ A a) : SR K σ H (grow F H B) A env := by
  obtain ⟨fh, ah, le, As, h1, h2, h3, h4⟩ := S
  refine ⟨grow_in fh, ah, le, As, fun i r e => ?_, h2, h3, fun i a ha => ⟨(h4 i a ha).1, ?_⟩⟩
  · obtain ⟨v, e1, q⟩ := h1 i r e
    exact ⟨v, e1, q.go (grow_same fun a ha => (n a ha).1) fun _ _ => rfl⟩
  · rw [grow_not fun q => (n a q).2 (h4 i a ha).1]; exact (h4 i a ha).2
theorem Out.freeze {K : PySem.W.Frag} {σ : St} {H F : Hp} {A : Addr → Prop} {r : R} {env : Env} {v : V} {H' : Hp} (O : Out K σ H F A r env v H') : Out K σ H F A (false, r.2) env v H' := by
  obtain ⟨F', A', Ar, S, st, re, nd, fr⟩ := O
  refine ⟨grow F' H' Ar, A', [], S.grow fun a ha => ⟨(fr a ha).2.2, (fr a ha).2.1⟩, ⟨st.ff.trans (grow_same fun a ha => (fr a ha).2.2), st.hh, st.dom, st.an, fun b o h => ?_⟩, ?_, List.nodup_nil, by simp⟩
  · by_cases q : b ∈ Ar
    · exact .inr (fr b q).1
    · rw [grow_not q] at h; exact st.fn b o h
  · rw [Res.ff]
    exact ⟨rfl, re.rep (grow_same fun a ha => (fr a ha).2.2) fun a ha o e => by rw [grow_mem ha]; exact e⟩
/-- the value alone: shared in the state behind -/
theorem Out.sh {K : PySem.W.Frag} {σ : St} {H F : Hp} {A : Addr → Prop} {r : R} {env : Env} {v : V} {H' : Hp} (O : Out K σ H F A r env v H') :
    ∃ (F' : Hp) (A' : Addr → Prop), SR K σ H' F' A' env ∧ Step H F A H' F' A' ∧ Rep K F' v r.2 := by
  obtain ⟨F', A', Ar, S, st, re, nd, fr⟩ := O.freeze
  rw [Res.ff] at re
  exact ⟨F', A', S, st, re.2⟩
theorem Out.of {K : PySem.W.Frag} {σ : St} {H F H' F' : Hp} {A A' : Addr → Prop} {t : T} {env : Env} {v : V} (S : SR K σ H' F' A' env) (st : Step H F A H' F' A') (h : Rep K F' v t) : Out K σ H F A (false, t) env v H' :=
  ⟨F', A', [], S, st, by rw [Res.ff]; exact ⟨rfl, h⟩, List.nodup_nil, by simp⟩
theorem Out.av {K : PySem.W.Frag} {σ : St} {H F H' F' : Hp} {A A' : Addr → Prop} {b : Bool} {env : Env} {v : V} (S : SR K σ H' F' A' env) (st : Step H F A H' F' A') : Out K σ H F A (b, .av v) env v H' :=
  ⟨F', A', [], S, st, Res.of_av, List.nodup_nil, by simp⟩
/-- one after the other -/
theorem Out.after {K : PySem.W.Frag} {σ : St} {H F H1 F1 : Hp} {A A1 : Addr → Prop} {r : R} {env : Env} {v : V} {H' : Hp} (st : Step H F A H1 F1 A1) (O : Out K σ H1 F1 A1 r env v H') : Out K σ H F A r env v H' := by
  obtain ⟨F', A', Ar, S, st', re, nd, fr⟩ := O
  exact ⟨F', A', Ar, S, st.trans st', re, nd, fun a ha => ⟨st.src (fr a ha).1, (fr a ha).2⟩⟩

/-- a list new at p, tracked: the state is the same state -/
theorem Step.new {H F : Hp} {A : Addr → Prop} {p : Addr} {o : HO} (n : H p = none) : Step H F A (upd H p o) F A where
  ff := .refl _
  hh := fun b u h _ => by rw [upd_ne (ne_of_none h n)]; exact h
  dom := fun b h => by
    by_cases e : b = p
    · subst e; rw [upd_same]; simp
    · rw [upd_ne e]; exact h
  an := fun _ h => .inl h
  fn := fun _ _ h => .inl h
theorem SR.same {K : PySem.W.Frag} {σ : St} {H H' F : Hp} {A : Addr → Prop} {env : Env} (S : SR K σ H F A env) (s : Same H H') : SR K σ H' F A env := by
  obtain ⟨fh, ah, le, As, h1, h2, h3, h4⟩ := S
  refine ⟨fh.trans s, fun a ha => ?_, le, As, fun i r e => ?_, h2, h3, h4⟩
  · cases z : H a with
    | none => exact absurd z (ah a ha)
    | some o => rw [s a o z]; simp
  obtain ⟨v, e1, q⟩ := h1 i r e
  refine ⟨v, e1, q.go (.refl _) fun a ha => ?_⟩
  cases z : H a with
  | none => exact absurd z (q.there a ha)
  | some o => exact s a o z
theorem same_new {H : Hp} {p : Addr} {o : HO} (n : H p = none) : Same H (upd H p o) := fun b u h => by rw [upd_ne (ne_of_none h n)]; exact h
theorem SR.new {K : PySem.W.Frag} {σ : St} {H F : Hp} {A : Addr → Prop} {env : Env} {p : Addr} {o : HO} (S : SR K σ H F A env) (n : H p = none) : SR K σ (upd H p o) F A env := S.same (same_new n)
theorem Step.same {H H' F : Hp} {A : Addr → Prop} (s : Same H H') : Step H F A H' F A where
  ff := .refl _
  hh := fun b u h _ => s b u h
  dom := fun b h => by
    cases z : H b with
    | none => exact absurd z h
    | some o => rw [s b o z]; simp
  an := fun _ h => .inl h
  fn := fun _ _ h => .inl h
theorem SR.fnone {K : PySem.W.Frag} {σ : St} {H F : Hp} {A : Addr → Prop} {env : Env} {p : Addr} (S : SR K σ H F A env) (n : H p = none) : F p = none := by
  cases z : F p with
  | none => rfl
  | some o => rw [S.fh p o z] at n; cases n
/-! ### something new -/
/-- behind a rule that changes nothing that stood: the value -/
def New (K : PySem.W.Frag) (F H : Hp) (r : R) (v : V) (H' : Hp) : Prop :=
  Same H H' ∧ ∃ (F' : Hp) (Ar : List Addr), Same F F' ∧ Same F' H' ∧ (∀ b o, F' b = some o → F b = some o ∨ H b = none) ∧ Res K F' H' r v Ar ∧ Ar.Nodup ∧ ∀ a ∈ Ar, H a = none ∧ F' a = none
theorem New.old {K : PySem.W.Frag} {F H : Hp} {t : T} {v : V} (s : Same F H) (h : Rep K F v t) : New K F H (false, t) v H :=
  ⟨.refl _, F, [], .refl _, s, fun _ _ h => .inl h, by rw [Res.ff]; exact ⟨rfl, h⟩, List.nodup_nil, by simp⟩
theorem New.av {K : PySem.W.Frag} {F H : Hp} {b : Bool} {v : V} (s : Same F H) : New K F H (b, .av v) v H :=
  ⟨.refl _, F, [], .refl _, s, fun _ _ h => .inl h, Res.of_av, List.nodup_nil, by simp⟩
theorem SR.regrow {K : PySem.W.Frag} {σ : St} {H H' F F' : Hp} {A : Addr → Prop} {env : Env} (S : SR K σ H F A env) (s : Same H H') (f1 : Same F F') (f2 : Same F' H') (f3 : ∀ b o, F' b = some o → F b = some o ∨ H b = none) : SR K σ H' F' A env := by
  obtain ⟨fh, ah, le, As, h1, h2, h3, h4⟩ := S
  refine ⟨f2, fun a ha => ?_, le, As, fun i r e => ?_, h2, h3, fun i a ha => ⟨(h4 i a ha).1, ?_⟩⟩
  · cases z : H a with
    | none => exact absurd z (ah a ha)
    | some o => rw [s a o z]; simp
  · obtain ⟨v, e1, q⟩ := h1 i r e
    refine ⟨v, e1, q.go f1 fun a ha => ?_⟩
    cases z : H a with
    | none => exact absurd z (q.there a ha)
    | some o => exact s a o z
  · cases z : F' a with
    | none => rfl
    | some o =>
      rcases f3 a o z with y | y
      · rw [(h4 i a ha).2] at y; cases y
      · exact absurd y (ah a (h4 i a ha).1)
theorem Out.new {K : PySem.W.Frag} {σ : St} {H F H' : Hp} {A : Addr → Prop} {r : R} {env : Env} {v : V} (S : SR K σ H F A env) (n : New K F H r v H') : Out K σ H F A r env v H' := by
  obtain ⟨s, F', Ar, f1, f2, f3, re, nd, fr⟩ := n
  refine ⟨F', A, Ar, S.regrow s f1 f2 f3, ⟨f1, fun b o h _ => s b o h, fun b h => ?_, fun _ h => .inl h, fun b o h => (f3 b o h).imp id .inl⟩, re, nd, fun a ha => ⟨.inl (fr a ha).1, fun q => S.ah a q (fr a ha).1, (fr a ha).2⟩⟩
  cases z : H b with
  | none => exact absurd z h
  | some o => rw [s b o z]; simp
/-- a thing laid at a new place p, its children shared -/
theorem New.laid {K : PySem.W.Frag} {F H : Hp} {t : T} {p : Addr} {o : HO} (s : Same F H) (n : H p = none) (h : Rep K (upd F p o) (.ref p) t) : New K F H (false, t) (.ref p) (upd H p o) := by
  have fn : F p = none := by
    cases z : F p with
    | none => rfl
    | some o => rw [s p o z] at n; cases n
  refine ⟨same_new n, upd F p o, [], same_new fn, fun b u e => ?_, fun b u e => ?_, by rw [Res.ff]; exact ⟨rfl, h⟩, List.nodup_nil, by simp⟩
  · by_cases q : b = p
    · subst q; rw [upd_same] at e ⊢; exact e
    · rw [upd_ne q] at e ⊢; exact s b u e
  · by_cases q : b = p
    · subst q; exact .inr n
    · rw [upd_ne q] at e; exact .inl e
/-- owned -/
theorem New.laidO {K : PySem.W.Frag} {F H : Hp} {t : T} {p : Addr} {o : HO} {Ar : List Addr} (s : Same F H) (n : H p = none) (h : Own (upd H p o) (.ref p) t Ar) (nd : Ar.Nodup) (fr : ∀ a ∈ Ar, H a = none) : New K F H (true, t) (.ref p) (upd H p o) := by
  refine ⟨same_new n, F, Ar, .refl _, s.trans (same_new n), fun _ _ h => .inl h, by rw [Res.tt]; exact h, nd, fun a ha => ⟨fr a ha, ?_⟩⟩
  cases z : F a with
  | none => rfl
  | some o => have := fr a ha; rw [s a o z] at this; cases this
end Q
end

section
set_option maxRecDepth 100000
/-! Q2: expressions over trees. -/
namespace Q
open PySem L2

def T.isAv : T → Bool
  | .av _ => true
  | _ => false

/-! ### arguments -/
inductive Arg where
  | val (r : R)
  | slot (i : Nat)
def ArgsR (K : PySem.W.Frag) (F H : Hp) (σ : St) : List Arg → List V → List Addr → Prop
  | [], vs, A => vs = [] ∧ A = []
  | .val r :: as, vs, A => ∃ v us B C, vs = v :: us ∧ A = B ++ C ∧ Res K F H r v B ∧ ArgsR K F H σ as us C
  | .slot i :: as, vs, A => ∃ v us, vs = v :: us ∧ σ[i]? = some (some v) ∧ ArgsR K F H σ as us A
theorem ArgsR.there {K : PySem.W.Frag} {F H : Hp} {σ : St} : ∀ {as : List Arg} {vs : List V} {A : List Addr}, ArgsR K F H σ as vs A → ∀ a ∈ A, H a ≠ none
  | [], _, _, h => by obtain ⟨_, rfl⟩ := h; simp
  | .val r :: as, _, _, h => by
    obtain ⟨v, us, B, C, _, rfl, q, p⟩ := h
    intro a ha
    rcases List.mem_append.mp ha with ha | ha
    · exact q.there a ha
    · exact p.there a ha
  | .slot i :: as, _, _, h => by obtain ⟨v, us, _, _, p⟩ := h; exact p.there
theorem ArgsR.go {K : PySem.W.Frag} {F H F' H' : Hp} {σ : St} (s : Same F F') : ∀ {as : List Arg} {vs : List V} {A : List Addr}, ArgsR K F H σ as vs A → (∀ a ∈ A, H' a = H a) → ArgsR K F' H' σ as vs A
  | [], _, _, h, _ => h
  | .val r :: as, _, _, h, k => by
    obtain ⟨v, us, B, C, e, rfl, q, p⟩ := h
    exact ⟨v, us, B, C, e, rfl, q.go s fun a ha => k a (List.mem_append_left _ ha), p.go s fun a ha => k a (List.mem_append_right _ ha)⟩
  | .slot i :: as, _, _, h, k => by
    obtain ⟨v, us, e, q, p⟩ := h
    exact ⟨v, us, e, q, p.go s k⟩
def OutL (K : PySem.W.Frag) (σ : St) (H F : Hp) (A : Addr → Prop) (rs : List Arg) (env : Env) (vs : List V) (H' : Hp) : Prop :=
  ∃ (F' : Hp) (A' : Addr → Prop) (Ar : List Addr), SR K σ H' F' A' env ∧ Step H F A H' F' A' ∧ ArgsR K F' H' σ rs vs Ar ∧ Ar.Nodup ∧ ∀ a ∈ Ar, (H a = none ∨ A a) ∧ ¬ A' a ∧ F' a = none
abbrev QLK := List Arg → Env → Prop
abbrev TQL := Env → QLK → Prop
def liftL (K : PySem.W.Frag) (τ : TQL) : TA := fun σ H Rk => ∃ (F : Hp) (A : Addr → Prop) (env : Env) (Q : QLK), SR K σ H F A env ∧ τ env Q ∧
  ∀ rs env' vs H', Q rs env' → OutL K σ H F A rs env' vs H' → Rk vs H'
def QA (X : Cx) (es : List Expr) (τ : TQL) : Prop := PA X es (liftL X.K τ)
theorem weakA {X : Cx} {e : List Expr} {t t' : TA} (h : PA X e t) (w : ∀ σ H Rk, t' σ H Rk → t σ H Rk) : PA X e t' := ⟨fun po pins s σ H Rk I q => h.run po pins s σ H Rk I (w σ H Rk q)⟩

section
variable {X : Cx} {K : PySem.W.Frag} {σ : St} {H F : Hp} {A : Addr → Prop} {env : Env} {Q1 : QK}

/-- evaluate, then go on with the value shared -/
theorem lift_sh {τ : TQ} {Rk : VK} (S : SR K σ H F A env) (h : τ env Q1) (k : ∀ r env1 v H1 F1 A1, Q1 r env1 → SR K σ H1 F1 A1 env1 → Step H F A H1 F1 A1 → Rep K F1 v r.2 → Rk v H1) : lift K τ σ H Rk :=
  ⟨F, A, env, Q1, S, h, fun r env1 v H1 q O => let ⟨F1, A1, S1, st1, re⟩ := O.sh; k r env1 v H1 F1 A1 q S1 st1 re⟩
theorem lift_own {τ : TQ} {Rk : VK} (S : SR K σ H F A env) (h : τ env Q1) (k : ∀ r env1 v H1, Q1 r env1 → Out K σ H F A r env1 v H1 → Rk v H1) : lift K τ σ H Rk := ⟨F, A, env, Q1, S, h, k⟩
theorem Rep.av_eq {v x : V} (h : Rep K F v (.av x)) : v = x := by simpa only [Rep] using h

/-! ### names, constants -/
def tqVar (i : Nat) : TQ := fun env Q => ∃ t, env[i]? = some (some (false, t)) ∧ Q (false, t) env
theorem qe_var {i : Nat} {e : Expr} (h : PE X e (tVar i)) : QE X e (tqVar i) := by
  refine weakE h fun σ H Rk ⟨F, A, env, Q, S, h, k⟩ => ?_
  obtain ⟨t, e, q⟩ := h
  obtain ⟨As, h1, _⟩ := id S.sl
  obtain ⟨v, e1, re⟩ := h1 i _ e
  rw [Res.ff] at re
  exact ⟨v, e1, k _ _ v H q (.of S .refl re.2)⟩
def tqC (v : V) : TQ := fun env Q => Q (false, .av v) env
theorem qe_c {v : V} {e : Expr} (h : PE X e (tC v)) : QE X e (tqC v) := by
  refine weakE h fun σ H Rk ⟨F, A, env, Q, S, h, k⟩ => ?_
  exact k _ _ v H h (.av S .refl)

/-! ### a pure step from values to a value -/
abbrev RK := R → Prop
/-- what a two-place rule wants, over trees -/
def Br2 (K : PySem.W.Frag) (r : R2) (ρ : T → T → RK → Prop) : Prop := ∀ (F H : Hp) (x y : V) (t u : T) (Rk : VK) (Q : RK), Same F H → Rep K F x t → Rep K F y u → ρ t u Q →
  (∀ rr v H', Q rr → New K F H rr v H' → Rk v H') → r x y H Rk
def tq2 (ρ : T → T → RK → Prop) (τa τb : TQ) : TQ := fun env Q => τa env fun ra e1 => τb e1 fun rb e2 => ρ ra.2 rb.2 fun rr => Q rr e2
theorem lift2 {r : R2} {ρ : T → T → RK → Prop} {τa τb : TQ} (b : Br2 K r ρ) {σ : St} {H : Hp} {Rk : VK} (h : lift K (tq2 ρ τa τb) σ H Rk) : tOp r (lift K τa) (lift K τb) σ H Rk := by
  obtain ⟨F, A, env, Q, S, h, k⟩ := h
  refine lift_sh S h fun ra e1 x H1 F1 A1 q1 S1 st1 r1 => lift_sh S1 q1 fun rb e2 y H2 F2 A2 q2 S2 st2 r2 => ?_
  exact b F2 H2 x y _ _ Rk _ S2.fh (r1.mono st2.ff) r2 q2 fun rr v H' q n => k rr e2 v H' q ((Out.new S2 n).after (st1.trans st2))
theorem qe_op {op : Operator} {r : R2} {ρ : T → T → RK → Prop} {a b : Expr} {τa τb : TQ} {pos : Pos} (ho : OpR X (binaryOp op) r) (br : Br2 X.K r ρ) (ha : QE X a τa) (hb : QE X b τb) : QE X (.BinOp a op b pos) (tq2 ρ τa τb) :=
  weakE (pe_op ho ha hb) fun _ _ _ h => lift2 br h
theorem qe_cmp {op : CmpOp} {r : R2} {ρ : T → T → RK → Prop} {a b : Expr} {τa τb : TQ} {pos : Pos} (ho : OpR X (compareOp op) r) (br : Br2 X.K r ρ) (ha : QE X a τa) (hb : QE X b τb) (hm : behindInMarks op b = false) : QE X (.Compare a [op] [b] pos) (tq2 ρ τa τb) :=
  weakE (pe_cmpR ho ha hb hm) fun _ _ _ h => lift2 br h
theorem qe_ix {r : R2} {ρ : T → T → RK → Prop} {a b : Expr} {τa τb : TQ} {pos : Pos} (ho : IxR X r) (br : Br2 X.K r ρ) (ha : QE X a τa) (hb : QE X b τb) (hs : PlainIx b) : QE X (.Subscript a b pos) (tq2 ρ τa τb) :=
  weakE (pe_ix ho ha hb hs) fun _ _ _ h => lift2 br h
/-- one place -/
def Br1 (K : PySem.W.Frag) (r : V → Hp → VK → Prop) (ρ : T → RK → Prop) : Prop := ∀ (F H : Hp) (x : V) (t : T) (Rk : VK) (Q : RK), Same F H → Rep K F x t → ρ t Q →
  (∀ rr v H', Q rr → New K F H rr v H' → Rk v H') → r x H Rk
def tq1 (ρ : T → RK → Prop) (τa : TQ) : TQ := fun env Q => τa env fun ra e1 => ρ ra.2 fun rr => Q rr e1
theorem qe_un {op : UnaryOp} {r : V → Hp → VK → Prop} {ρ : T → RK → Prop} {a : Expr} {τa : TQ} {pos : Pos} (ho : UnR X (unaryOp op) r) (br : Br1 X.K r ρ) (ha : QE X a τa) : QE X (.UnaryOp op a pos) (tq1 ρ τa) := by
  refine weakE (pe_un ho ha) fun σ H Rk ⟨F, A, env, Q, S, h, k⟩ => ?_
  refine lift_sh S h fun ra e1 x H1 F1 A1 q1 S1 st1 r1 => ?_
  exact br F1 H1 x _ Rk _ S1.fh r1 q1 fun rr v H' q n => k rr e1 v H' q ((Out.new S1 n).after st1)

/-! ### arguments -/
def tqNil : TQL := fun env Q => Q [] env
def tqCons (τ : TQ) (τs : TQL) : TQL := fun env Q => τ env fun r e1 => τs e1 fun rs e2 => Q (.val r :: rs) e2
theorem qa_nil : QA X [] tqNil := by
  refine weakA pa_nil fun σ H Rk ⟨F, A, env, Q, S, h, k⟩ => ?_
  exact k _ _ [] H h ⟨F, A, [], S, .refl, ⟨rfl, rfl⟩, List.nodup_nil, by simp⟩
theorem OutL.after {r : R} {rs : List Arg} {e1 e2 : Env} {v : V} {vs : List V} {H1 H2 : Hp} {F1 : Hp} {A1 : Addr → Prop} {B : List Addr} (S : SR K σ H1 F1 A1 e1) (st : Step H F A H1 F1 A1) (re : Res K F1 H1 r v B) (nd : B.Nodup)
    (fr : ∀ a ∈ B, (H a = none ∨ A a) ∧ ¬ A1 a ∧ F1 a = none) (O : OutL K σ H1 F1 A1 rs e2 vs H2) : OutL K σ H F A (.val r :: rs) e2 (v :: vs) H2 := by
  obtain ⟨F2, A2, C, S2, st2, as, nd2, fr2⟩ := O
  have hB : ∀ a ∈ B, H2 a = H1 a := fun a ha => by
    cases z : H1 a with
    | none => exact absurd z (re.there a ha)
    | some o => exact st2.hh a o z (fr a ha).2.1
  refine ⟨F2, A2, B ++ C, S2, st.trans st2, ⟨v, vs, B, C, rfl, rfl, re.go st2.ff hB, as⟩, List.nodup_append.mpr ⟨nd, nd2, fun a ha b hb e => ?_⟩, fun a ha => ?_⟩
  · subst e
    exact (fr2 a hb).1.elim (re.there a ha) (fr a ha).2.1
  · rcases List.mem_append.mp ha with ha | ha
    · refine ⟨(fr a ha).1, fun q => ?_, ?_⟩
      · rcases st2.an a q with z | z
        · exact (fr a ha).2.1 z
        · exact re.there a ha z
      · exact st2.stays (fr a ha).2.2 (re.there a ha) (fr a ha).2.1
    · exact ⟨st.src (fr2 a ha).1, (fr2 a ha).2⟩
theorem qa_cons {e : Expr} {es : List Expr} {τ : TQ} {τs : TQL} (he : QE X e τ) (hs : QA X es τs) (hst : starEach (e :: es) X.env = (false, eval e X.env) :: starEach es X.env := by rfl) : QA X (e :: es) (tqCons τ τs) := by
  refine weakA (pa_cons he hs hst) fun σ H Rk ⟨F, A, env, Q, S, h, k⟩ => ?_
  refine lift_own S h fun r e1 v H1 q1 O => ?_
  obtain ⟨F1, A1, B, S1, st1, re, nd, fr⟩ := O
  exact ⟨F1, A1, e1, _, S1, q1, fun rs e2 vs H2 q O2 => k _ _ _ _ q (O2.after S1 st1 re nd fr)⟩
/-- a slot handed over as it is: the callee may change it -/
def tqSlot (i : Nat) (τs : TQL) : TQL := fun env Q => τs env fun rs e2 => (∃ r, env[i]? = some (some r)) ∧ Q (.slot i :: rs) e2
theorem qa_slot {i : Nat} {e : Expr} {es : List Expr} {τs : TQL} (he : PE X e (tVar i)) (hs : QA X es τs) (hst : starEach (e :: es) X.env = (false, eval e X.env) :: starEach es X.env := by rfl) : QA X (e :: es) (fun env Q => (∃ r, env[i]? = some (some r)) ∧ τs env fun rs e2 => Q (.slot i :: rs) e2) := by
  refine weakA (pa_cons he hs hst) fun σ H Rk ⟨F, A, env, Q, S, h, k⟩ => ?_
  obtain ⟨⟨r, er⟩, h⟩ := h
  obtain ⟨As, h1, _⟩ := id S.sl
  obtain ⟨v, e1, _⟩ := h1 i _ er
  refine ⟨v, e1, F, A, env, _, S, h, fun rs e2 vs H2 q O => k _ _ _ _ q ?_⟩
  obtain ⟨F2, A2, C, S2, st2, as, nd2, fr2⟩ := O
  exact ⟨F2, A2, C, S2, st2, ⟨v, vs, rfl, e1, as⟩, nd2, fr2⟩

/-- the trees of arguments that are all values -/
def vals : List Arg → Option (List T)
  | [] => some []
  | .val r :: as => (vals as).map (r.2 :: ·)
  | .slot _ :: _ => none
theorem ArgsR.rep {G : Hp} (s : Same F G) : ∀ {as : List Arg} {vs : List V} {ts : List T} {A : List Addr}, ArgsR K F H σ as vs A → (∀ a ∈ A, ∀ o, H a = some o → G a = some o) → vals as = some ts → RepL K G vs ts
  | [], vs, ts, A, h, _, e => by
    obtain ⟨rfl, _⟩ := h
    cases e
    simp [RepL]
  | .val r :: as, vs, ts, A, h, k, e => by
    obtain ⟨v, us, B, C, rfl, rfl, q, p⟩ := h
    simp only [vals, Option.map_eq_some_iff] at e
    obtain ⟨us', e', rfl⟩ := e
    simp only [RepL]
    exact ⟨v, us, rfl, q.rep s fun a ha => k a (List.mem_append_left _ ha), ArgsR.rep s p (fun a ha => k a (List.mem_append_right _ ha)) e'⟩
  | .slot i :: as, vs, ts, A, h, _, e => by cases e
theorem OutL.sh {rs : List Arg} {ts : List T} {vs : List V} {H' : Hp} (O : OutL K σ H F A rs env vs H') (e : vals rs = some ts) :
    ∃ (F' : Hp) (A' : Addr → Prop), SR K σ H' F' A' env ∧ Step H F A H' F' A' ∧ RepL K F' vs ts := by
  obtain ⟨F', A', Ar, S, st, re, nd, fr⟩ := O
  refine ⟨grow F' H' Ar, A', S.grow fun a ha => ⟨(fr a ha).2.2, (fr a ha).2.1⟩, ⟨st.ff.trans (grow_same fun a ha => (fr a ha).2.2), st.hh, st.dom, st.an, fun b o h => ?_⟩, ?_⟩
  · by_cases q : b ∈ Ar
    · exact .inr (fr b q).1
    · rw [grow_not q] at h; exact st.fn b o h
  · exact re.rep (grow_same fun a ha => (fr a ha).2.2) (fun a ha o e => by rw [grow_mem ha]; exact e) e
/-- a rule over a list of values -/
def BrL (K : PySem.W.Frag) (r : List V → Hp → VK → Prop) (ρ : List T → RK → Prop) : Prop := ∀ (F H : Hp) (xs : List V) (ts : List T) (Rk : VK) (Q : RK), Same F H → RepL K F xs ts → ρ ts Q →
  (∀ rr v H', Q rr → New K F H rr v H' → Rk v H') → r xs H Rk
def tqL (ρ : List T → RK → Prop) (τs : TQL) : TQ := fun env Q => τs env fun rs e1 => ∃ ts, vals rs = some ts ∧ ρ ts fun rr => Q rr e1
theorem lift_args {τs : TQL} {Rk : List V → Hp → Prop} {Q1 : QLK} (S : SR K σ H F A env) (h : τs env Q1) (k : ∀ rs env1 vs H1, Q1 rs env1 → OutL K σ H F A rs env1 vs H1 → Rk vs H1) : liftL K τs σ H Rk := ⟨F, A, env, Q1, S, h, k⟩
theorem liftLL {r : List V → Hp → VK → Prop} {ρ : List T → RK → Prop} {τs : TQL} (b : BrL K r ρ) {σ : St} {H : Hp} {Rk : VK} (h : lift K (tqL ρ τs) σ H Rk) : liftL K τs σ H fun xs H2 => r xs H2 Rk := by
  obtain ⟨F, A, env, Q, S, h, k⟩ := h
  refine lift_args S h fun rs e1 vs H1 q1 O => ?_
  obtain ⟨ts, e, q⟩ := q1
  obtain ⟨F1, A1, S1, st1, re⟩ := O.sh e
  exact b F1 H1 vs ts Rk _ S1.fh re q fun rr v H' q n => k rr e1 v H' q ((Out.new S1 n).after st1)
theorem qe_callB {id : String} {x : Str} {p pos : Pos} {e : Expr} {es : List Expr} {r : List V → Hp → VK → Prop} {ρ : List T → RK → Prop} {τs : TQL} (hc : CallR X (.builtin id) r) (br : BrL X.K r ρ) (hg : Gl X x) (hm : X.mg x = none) (hv : bootBuiltins x = some (.builtin id)) (ha : QA X (e :: es) τs)
    (hn : x ≠ "__name__" := by decide) (hdb : (x == ("__debug__" : Str)) = false := by decide) (he : starEach (e :: es) X.env = (false, eval e X.env) :: starEach es X.env := by rfl) (hpl : (backTo pos (starEach es X.env)).any (·.1) = false := by rfl) : QE X (.Call (.Name x p) (e :: es) [] pos) (tqL ρ τs) :=
  weakE (pe_callB hc hg hm hv ha hn hdb he hpl) fun _ _ _ h => liftLL br h
theorem qe_callTy {T' : String} {x : Str} {p pos : Pos} {e : Expr} {es : List Expr} {r : List V → Hp → VK → Prop} {ρ : List T → RK → Prop} {τs : TQL} (hc : CallR X (.type T') r) (br : BrL X.K r ρ) (hg : Gl X x) (hm : X.mg x = none) (hv : bootBuiltins x = some (.type T')) (ha : QA X (e :: es) τs)
    (hn : x ≠ "__name__" := by decide) (hdb : (x == ("__debug__" : Str)) = false := by decide) (he : starEach (e :: es) X.env = (false, eval e X.env) :: starEach es X.env := by rfl) (hpl : (backTo pos (starEach es X.env)).any (·.1) = false := by rfl) : QE X (.Call (.Name x p) (e :: es) [] pos) (tqL ρ τs) :=
  weakE (pe_callTy hc hg hm hv ha hn hdb he hpl) fun _ _ _ h => liftLL br h
end
end Q
end

section
set_option maxRecDepth 100000
/-! Q3: the rules for operators, comparisons, subscripts, built-in calls, over trees. -/
namespace Q
open PySem L2
section
variable {X : Cx} {K : PySem.W.Frag}

/-! ### trees of known forms -/
def mkL (ts : List T) : R := (ts.all T.isAv, .lst ts)
theorem ownL_av {H : Hp} : ∀ {ts : List T} {vs : List V} {F : Hp}, ts.all T.isAv = true → RepL K F vs ts → OwnL H vs ts []
  | [], vs, F, _, r => by simp only [RepL] at r; simp [OwnL, r]
  | t :: ts, vs, F, h, r => by
    simp only [RepL] at r
    obtain ⟨v, us, rfl, q, p⟩ := r
    rw [List.all_cons, Bool.and_eq_true] at h
    simp only [OwnL]
    refine ⟨v, us, [], [], rfl, rfl, ?_, ownL_av h.2 p⟩
    cases t with
    | av x => simp only [Rep] at q; simp [Own, q]
    | _ => cases h.1
theorem RepL.length {F : Hp} : ∀ {ts : List T} {vs : List V}, RepL K F vs ts → vs.length = ts.length
  | [], vs, r => by simp only [RepL] at r; simp [r]
  | t :: ts, vs, r => by
    simp only [RepL] at r
    obtain ⟨v, us, rfl, q, p⟩ := r
    simp [RepL.length p]
theorem RepL.get {F : Hp} : ∀ {ts : List T} {vs : List V}, RepL K F vs ts → ∀ {i : Nat} {t : T}, ts[i]? = some t → ∃ v, vs[i]? = some v ∧ Rep K F v t
  | [], vs, r, i, t, h => by simp at h
  | t' :: ts, vs, r, i, t, h => by
    simp only [RepL] at r
    obtain ⟨v, us, rfl, q, p⟩ := r
    cases i with
    | zero => simp at h; subst h; exact ⟨v, by simp, q⟩
    | succ i => obtain ⟨w, e, z⟩ := RepL.get p (i := i) (t := t) (by simpa using h); exact ⟨w, by simpa using e, z⟩
theorem RepL.getV {F : Hp} {ts : List T} {vs : List V} (r : RepL K F vs ts) {i : Nat} {v : V} (h : vs[i]? = some v) : ∃ t, ts[i]? = some t ∧ Rep K F v t := by
  have hl : i < ts.length := by
    have := (List.getElem?_eq_some_iff.mp h).1
    rw [r.length] at this; exact this
  obtain ⟨w, e, z⟩ := r.get (List.getElem?_eq_getElem hl)
  rw [h] at e; cases e
  exact ⟨_, List.getElem?_eq_getElem hl, z⟩
theorem RepL.append {F : Hp} : ∀ {ts us : List T} {vs ws : List V}, RepL K F vs ts → RepL K F ws us → RepL K F (vs ++ ws) (ts ++ us)
  | [], us, vs, ws, r, q => by simp only [RepL] at r; subst r; exact q
  | t :: ts, us, vs, ws, r, q => by
    simp only [RepL] at r
    obtain ⟨v, vs', rfl, q1, p⟩ := r
    simp only [List.cons_append, RepL]
    exact ⟨v, vs' ++ ws, rfl, q1, RepL.append p q⟩
theorem RepL.take {F : Hp} : ∀ {ts : List T} {vs : List V} (n : Nat), RepL K F vs ts → RepL K F (vs.take n) (ts.take n)
  | ts, vs, 0, r => by simp [RepL]
  | [], vs, n + 1, r => by simp only [RepL] at r; subst r; simp [RepL]
  | t :: ts, vs, n + 1, r => by
    simp only [RepL] at r
    obtain ⟨v, vs', rfl, q1, p⟩ := r
    simp only [List.take_succ_cons, RepL]
    exact ⟨v, _, rfl, q1, RepL.take n p⟩
theorem RepL.drop {F : Hp} : ∀ {ts : List T} {vs : List V} (n : Nat), RepL K F vs ts → RepL K F (vs.drop n) (ts.drop n)
  | ts, vs, 0, r => by simpa using r
  | [], vs, n + 1, r => by simp only [RepL] at r; subst r; simp [RepL]
  | t :: ts, vs, n + 1, r => by
    simp only [RepL] at r
    obtain ⟨v, vs', rfl, q1, p⟩ := r
    simpa using RepL.drop n p
theorem RepL.reverse {F : Hp} : ∀ {ts : List T} {vs : List V}, RepL K F vs ts → RepL K F vs.reverse ts.reverse
  | [], vs, r => by simp only [RepL] at r; subst r; simp [RepL]
  | t :: ts, vs, r => by
    simp only [RepL] at r
    obtain ⟨v, vs', rfl, q1, p⟩ := r
    simp only [List.reverse_cons]
    exact (RepL.reverse p).append (by simp only [RepL]; exact ⟨v, [], rfl, q1, rfl⟩)
theorem RepL.rep {F : Hp} {ts : List T} {vs : List V} (r : RepL K F vs ts) : ∀ n : Nat, RepL K F (List.replicate n vs).flatten (List.replicate n ts).flatten
  | 0 => by simp [RepL]
  | n + 1 => by simp only [List.replicate_succ, List.flatten_cons]; exact r.append (RepL.rep r n)
theorem New.lst {F H : Hp} {ts : List T} {vs : List V} {p : Addr} (s : Same F H) (r : RepL K F vs ts) (n : H p = none) : New K F H (mkL ts) (.ref p) (upd H p (.lst vs)) := by
  have fn : F p = none := by
    cases z : F p with
    | none => rfl
    | some o => rw [s p o z] at n; cases n
  cases h : ts.all T.isAv with
  | true =>
    unfold mkL
    rw [h]
    refine New.laidO s n (Ar := [p]) ?_ (by simp) (by simpa using n)
    simp only [Own]
    exact ⟨p, vs, [], rfl, rfl, upd_same, ownL_av h r⟩
  | false =>
    unfold mkL
    rw [h]
    refine New.laid s n ?_
    simp only [Rep]
    exact ⟨p, vs, rfl, upd_same, r.mono (same_new fn)⟩
theorem New.tup {F H : Hp} {ts : List T} {vs : List V} {p : Addr} (s : Same F H) (r : RepL K F vs ts) (n : H p = none) : New K F H (ts.all T.isAv, .tup ts) (.ref p) (upd H p (.tup vs)) := by
  have fn : F p = none := by
    cases z : F p with
    | none => rfl
    | some o => rw [s p o z] at n; cases n
  cases h : ts.all T.isAv with
  | true =>
    refine New.laidO s n (Ar := [p]) ?_ (by simp) (by simpa using n)
    simp only [Own]
    exact ⟨p, vs, [], rfl, rfl, upd_same, ownL_av h r⟩
  | false =>
    refine New.laid s n ?_
    simp only [Rep]
    exact ⟨p, vs, rfl, upd_same, r.mono (same_new fn)⟩

/-! ### numbers -/
def roI (C : Int → Int → Prop) (g : Int → Int → V) : T → T → RK → Prop := fun t u Q => ∃ i j, t = .int i ∧ u = .int j ∧ C i j ∧ Q (false, .av (g i j))
def roI0 (g : Int → Int → V) : T → T → RK → Prop := fun t u Q => ∃ i j, t = .int i ∧ u = .int j ∧ Q (false, .av (g i j))
theorem br_I {C : Int → Int → Prop} {g : Int → Int → V} : Br2 K (rI C g) (roI C g) := by
  intro F H x y t u Rk Q s rx ry h k
  obtain ⟨i, j, rfl, rfl, c, q⟩ := h
  exact ⟨i, j, Rep.av_eq rx, Rep.av_eq ry, c, k _ _ _ q (.av s)⟩
theorem br_I0 {g : Int → Int → V} : Br2 K (rI0 g) (roI0 g) := by
  intro F H x y t u Rk Q s rx ry h k
  obtain ⟨i, j, rfl, rfl, q⟩ := h
  exact ⟨i, j, Rep.av_eq rx, Rep.av_eq ry, k _ _ _ q (.av s)⟩
def CPowW (i j : Int) : Prop := 0 ≤ j ∧ (Builtin.Int.intBits i : Int) * j ≤ 2 ^ 27
theorem op_powW : OpR X (binaryOp .Pow) (rI CPowW fun i j => .int (i ^ j.toNat)) := opI fun _ _ _ _ _ _ _ hc q => PyProof.Rows.pow_int hc.1 hc.2 q
abbrev roSub := roI0 fun i j => .int (i - j)
abbrev roMul := roI CMulW fun i j => .int (i * j)
abbrev roMod := roI (fun _ j => 0 < j) fun i j => .int (i % j)
abbrev roDiv := roI CDivW fun i j => .int (i / j)
abbrev roPow := roI CPowW fun i j => .int (i ^ j.toNat)
variable {a b : Expr} {τa τb : TQ} {pos : Pos}
theorem q_sub (ha : QE X a τa) (hb : QE X b τb) : QE X (.BinOp a .Sub b pos) (tq2 roSub τa τb) := qe_op op_sub br_I0 ha hb
theorem q_mod (ha : QE X a τa) (hb : QE X b τb) : QE X (.BinOp a .Mod b pos) (tq2 roMod τa τb) := qe_op op_mod br_I ha hb
theorem q_div (ha : QE X a τa) (hb : QE X b τb) : QE X (.BinOp a .FloorDiv b pos) (tq2 roDiv τa τb) := qe_op op_fdivW br_I ha hb
theorem q_pow (ha : QE X a τa) (hb : QE X b τb) : QE X (.BinOp a .Pow b pos) (tq2 roPow τa τb) := qe_op op_powW br_I ha hb
def ro1I (g : Int → V) : T → RK → Prop := fun t Q => ∃ i, t = .int i ∧ Q (false, .av (g i))
theorem q_neg (ha : QE X a τa) : QE X (.UnaryOp .USub a pos) (tq1 (ro1I fun i => .int (-i)) τa) := qe_un un_neg (by
  intro F H x t Rk Q s rx h k
  obtain ⟨i, rfl, q⟩ := h
  exact ⟨i, Rep.av_eq rx, k _ _ _ q (.av s)⟩) ha
/-- + of ints, texts, lists, tuples -/
def roAdd : T → T → RK → Prop := fun t u Q => (∃ i j, t = .int i ∧ u = .int j ∧ Q (false, .int (i + j))) ∨ (∃ x y, t = .str x ∧ u = .str y ∧ x.length + y.length ≤ sizeLine ∧ Q (false, .str (x ++ y))) ∨
  ∃ xs ys, t = .lst xs ∧ u = .lst ys ∧ xs.length + ys.length ≤ sizeLine ∧ Q (mkL (xs ++ ys))
theorem op_addA : OpR X (binaryOp .Add) (fun x y H Q => rI0 (fun i j => .int (i + j)) x y H Q ∨ (∃ i j, x = .str i ∧ y = .str j ∧ i.length + j.length ≤ sizeLine ∧ Q (.str (i ++ j)) H) ∨ rCat x y H Q) := op_add.or (op_add_str.or op_cat)
theorem q_add (ha : QE X a τa) (hb : QE X b τb) : QE X (.BinOp a .Add b pos) (tq2 roAdd τa τb) := qe_op op_addA (by
  intro F H x y t u Rk Q s rx ry h k
  rcases h with ⟨i, j, rfl, rfl, q⟩ | ⟨i, j, rfl, rfl, hl, q⟩ | ⟨xs, ys, rfl, rfl, hl, q⟩
  · exact .inl ⟨i, j, Rep.av_eq rx, Rep.av_eq ry, k _ _ _ q (.av s)⟩
  · exact .inr (.inl ⟨i, j, Rep.av_eq rx, Rep.av_eq ry, hl, k _ _ _ q (.av s)⟩)
  · simp only [Rep] at rx ry
    obtain ⟨l, vs, rfl, h1, r1⟩ := rx
    obtain ⟨m, ws, rfl, h2, r2⟩ := ry
    exact .inr (.inr ⟨l, m, vs, ws, rfl, rfl, s _ _ h1, s _ _ h2, by rw [r1.length, r2.length]; exact hl, fun p n => k _ _ _ q (New.lst s (r1.append r2) n)⟩)) ha hb
/-- * of ints; of a list and an int -/
def roMulA : T → T → RK → Prop := fun t u Q => roMul t u Q ∨ ∃ xs n, t = .lst xs ∧ u = .int n ∧ -(2 ^ 63) ≤ n ∧ n < 2 ^ 63 ∧ xs.length * n.toNat ≤ sizeLine ∧ Q (mkL (List.replicate n.toNat xs).flatten)
theorem q_mul (ha : QE X a τa) (hb : QE X b τb) : QE X (.BinOp a .Mult b pos) (tq2 roMulA τa τb) := qe_op (op_mulW.or op_rep) (by
  intro F H x y t u Rk Q s rx ry h k
  rcases h with h | ⟨xs, n, rfl, rfl, h1, h2, h3, q⟩
  · exact .inl (br_I F H x y t u Rk Q s rx ry h k)
  · simp only [Rep] at rx
    obtain ⟨l, vs, rfl, e1, r1⟩ := rx
    exact .inr ⟨l, n, vs, rfl, Rep.av_eq ry, s _ _ e1, h1, h2, by rw [r1.length]; exact h3, fun p np => k _ _ _ q (New.lst s (r1.rep _) np)⟩) ha hb

/-! ### order -/
/-- a comparison's rule -/
def QC (X : Cx) (op : CmpOp) (ρ : T → T → RK → Prop) : Prop := ∃ r, OpR X (compareOp op) r ∧ Br2 X.K r ρ
def ltS (x y : Str) : Bool := decide (x.cps.toList < y.cps.toList)
def roLt : T → T → RK → Prop := fun t u Q => (∃ i j, t = .int i ∧ u = .int j ∧ Q (false, .bl (decide (i < j)))) ∨ ∃ x y, t = .str x ∧ u = .str y ∧ Q (false, .bl (ltS x y))
theorem qc_lt : QC X .Lt roLt := ⟨_, (op_lt.or op_lt_str), (by
  intro F H x y t u Rk Q s rx ry h k
  rcases h with ⟨i, j, rfl, rfl, q⟩ | ⟨i, j, rfl, rfl, q⟩
  · exact .inl ⟨i, j, Rep.av_eq rx, Rep.av_eq ry, k _ _ _ q (.av s)⟩
  · exact .inr ⟨i, j, Rep.av_eq rx, Rep.av_eq ry, k _ _ _ q (.av s)⟩)⟩
def roGt : T → T → RK → Prop := fun t u Q => (∃ i j, t = .int i ∧ u = .int j ∧ Q (false, .bl (decide (j < i)))) ∨ ∃ x y, t = .str x ∧ u = .str y ∧ Q (false, .bl (ltS y x))
theorem qc_gt : QC X .Gt roGt := ⟨_, (op_gt.or op_gt_str), (by
  intro F H x y t u Rk Q s rx ry h k
  rcases h with ⟨i, j, rfl, rfl, q⟩ | ⟨i, j, rfl, rfl, q⟩
  · exact .inl ⟨i, j, Rep.av_eq rx, Rep.av_eq ry, k _ _ _ q (.av s)⟩
  · exact .inr ⟨i, j, Rep.av_eq rx, Rep.av_eq ry, k _ _ _ q (.av s)⟩)⟩
abbrev roLe := roI0 fun i j => .bl (decide (i ≤ j))
abbrev roGe := roI0 fun i j => .bl (decide (j ≤ i))
theorem qc_le : QC X .LtE roLe := ⟨_, op_le, br_I0⟩
theorem qc_ge : QC X .GtE roGe := ⟨_, op_ge, br_I0⟩

/-! ### equality -/
mutual
def T.pd : T → Option PyData
  | .av .non => some .none
  | .av (.bl b) => some (.bool b)
  | .av (.int i) => some (.int i)
  | .av (.str x) => some (.str x)
  | .av _ => none
  | .lst ts => (T.pds ts).map .list
  | .tup ts => (T.pds ts).map .tuple
  | .dct _ _ => none
  | .dtt _ _ => none
  | .obj _ _ _ => none
  | .rd _ => none
def T.pds : List T → Option (List PyData)
  | [] => some []
  | t :: ts => match T.pd t, T.pds ts with
    | some d, some ds => some (d :: ds)
    | _, _ => none
end
mutual
theorem dp_of {F H : Hp} (s : Same F H) : ∀ {t : T} {v : V} {d : PyData}, Rep K F v t → t.pd = some d → Dp K H v d
  | .av x, v, d, r, e => by
    cases Rep.av_eq r
    cases x <;> simp only [T.pd, Option.some.injEq, reduceCtorEq] at e <;> subst e
    · exact .non
    · exact .bl _
    · exact .int _
    · exact .str _
  | .lst ts, v, d, r, e => by
    simp only [T.pd, Option.map_eq_some_iff] at e
    obtain ⟨ds, e, rfl⟩ := e
    simp only [Rep] at r
    obtain ⟨a, vs, rfl, h, r⟩ := r
    exact .lst (.of (s _ _ h)) (dps_of s r e)
  | .tup ts, v, d, r, e => by
    simp only [T.pd, Option.map_eq_some_iff] at e
    obtain ⟨ds, e, rfl⟩ := e
    simp only [Rep] at r
    obtain ⟨a, vs, rfl, h, r⟩ := r
    exact .tup (.of (s _ _ h)) (dps_of s r e)
  | .dct _ _, v, d, r, e => by simp [T.pd] at e
  | .dtt _ _, v, d, r, e => by simp [T.pd] at e
  | .obj _ _ _, v, d, r, e => by simp [T.pd] at e
  | .rd _, v, d, r, e => by simp [T.pd] at e
theorem dps_of {F H : Hp} (s : Same F H) : ∀ {ts : List T} {vs : List V} {ds : List PyData}, RepL K F vs ts → T.pds ts = some ds → DpAll K H vs ds
  | [], vs, ds, r, e => by simp only [RepL] at r; subst r; simp only [T.pds, Option.some.injEq] at e; subst e; exact .nil
  | t :: ts, vs, ds, r, e => by
    simp only [RepL] at r
    obtain ⟨v, us, rfl, q, p⟩ := r
    simp only [T.pds] at e
    split at e
    · rename_i d ds' e1 e2
      cases e
      exact .cons (dp_of s q e1) (dps_of s p e2)
    · cases e
end
/-- what == of two trees gives, where a rule knows it -/
def teq (t u : T) : Option Bool := match t.pd, u.pd with
  | some d, some e => if SeqAt.shaped d && SeqAt.shaped e then some (PyData.eqv d e) else none
  | _, _ => none
theorem teq_some {t u : T} {b : Bool} (h : teq t u = some b) : ∃ d e, t.pd = some d ∧ u.pd = some e ∧ SeqAt.shaped d = true ∧ SeqAt.shaped e = true ∧ b = PyData.eqv d e := by
  unfold teq at h
  split at h
  · rename_i d e h1 h2
    split at h
    · rename_i hs
      rw [Bool.and_eq_true] at hs
      cases h
      exact ⟨d, e, h1, h2, hs.1, hs.2, rfl⟩
    · cases h
  · cases h
def roEq : T → T → RK → Prop := fun t u Q => ∃ b, teq t u = some b ∧ Q (false, .bl b)
def roNe : T → T → RK → Prop := fun t u Q => ∃ b, teq t u = some b ∧ Q (false, .bl (!b))
theorem qc_eq (hu : X.A.units + 64 < cLine) : QC X .Eq roEq := ⟨_, (op_eqD hu), (by
  intro F H x y t u Rk Q s rx ry h k
  obtain ⟨b, e, q⟩ := h
  obtain ⟨d, d', h1, h2, h3, h4, rfl⟩ := teq_some e
  exact ⟨d, d', dp_of s rx h1, dp_of s ry h2, h3, h4, k _ _ _ q (.av s)⟩)⟩
theorem qc_ne (hu : X.A.units + 64 < cLine) : QC X .NotEq roNe := ⟨_, (op_neD hu), (by
  intro F H x y t u Rk Q s rx ry h k
  obtain ⟨b, e, q⟩ := h
  obtain ⟨d, d', h1, h2, h3, h4, rfl⟩ := teq_some e
  exact ⟨d, d', dp_of s rx h1, dp_of s ry h2, h3, h4, k _ _ _ q (.av s)⟩)⟩
/-- is None -/
def T.isNone : T → Bool
  | .av .non => true
  | _ => false
def roIsN : T → T → RK → Prop := fun t u Q => u = .non ∧ Q (false, .bl t.isNone)
def roNotN : T → T → RK → Prop := fun t u Q => u = .non ∧ Q (false, .bl (!t.isNone))
theorem isNone_of {F : Hp} {v : V} {t : T} (r : Rep K F v t) : decide (v = .non) = t.isNone := by
  cases t with
  | av x =>
    cases Rep.av_eq r
    cases v <;> simp [T.isNone]
  | rd ts => simp only [Rep] at r; obtain ⟨a, vs, rfl, _⟩ := r; simp [T.isNone]
  | obj C ns ts => simp only [Rep] at r; obtain ⟨a, dx, vs, rfl, _⟩ := r; simp [T.isNone]
  | _ => simp only [Rep] at r; obtain ⟨a, vs, rfl, _⟩ := r; simp [T.isNone]
theorem qc_isN : QC X .Is roIsN := ⟨_, op_isN, (by
  intro F H x y t u Rk Q s rx ry h k
  obtain ⟨rfl, q⟩ := h
  exact ⟨Rep.av_eq ry, by rw [isNone_of rx]; exact k _ _ _ q (.av s)⟩)⟩
theorem qc_notN : QC X .IsNot roNotN := ⟨_, op_notN, (by
  intro F H x y t u Rk Q s rx ry h k
  obtain ⟨rfl, q⟩ := h
  exact ⟨Rep.av_eq ry, by rw [isNone_of rx]; exact k _ _ _ q (.av s)⟩)⟩

/-! ### in -/
def T.avs : List T → Option (List V)
  | [] => some []
  | .av v :: ts => (T.avs ts).map (v :: ·)
  | _ :: _ => none
theorem avs_of {F : Hp} : ∀ {ts : List T} {vs us : List V}, RepL K F vs ts → T.avs ts = some us → vs = us
  | [], vs, us, r, e => by simp only [RepL] at r; simp only [T.avs, Option.some.injEq] at e; rw [r, ← e]
  | .av v :: ts, vs, us, r, e => by
    simp only [RepL] at r
    obtain ⟨w, ws, rfl, q, p⟩ := r
    simp only [T.avs, Option.map_eq_some_iff] at e
    obtain ⟨us', e, rfl⟩ := e
    rw [Rep.av_eq q, avs_of p e]
  | .lst _ :: ts, vs, us, r, e => by simp [T.avs] at e
  | .tup _ :: ts, vs, us, r, e => by simp [T.avs] at e
  | .dct _ _ :: ts, vs, us, r, e => by simp [T.avs] at e
  | .dtt _ _ :: ts, vs, us, r, e => by simp [T.avs] at e
  | .obj _ _ _ :: ts, vs, us, r, e => by simp [T.avs] at e
  | .rd _ :: ts, vs, us, r, e => by simp [T.avs] at e
/-- x in a list, a tuple of scalars -/
def tin (t u : T) : Option Bool := match t with
  | .av x => match u with
    | .lst ts => match T.avs ts with
      | some vs => if flatV x && vs.all flatV then some (inV x vs) else none
      | none => none
    | .tup ts => match T.avs ts with
      | some vs => if flatV x && vs.all flatV then some (inV x vs) else none
      | none => none
    | _ => none
  | _ => none
theorem tin_some {t u : T} {b : Bool} (h : tin t u = some b) : ∃ x ts vs, t = .av x ∧ (u = .lst ts ∨ u = .tup ts) ∧ T.avs ts = some vs ∧ flatV x = true ∧ vs.all flatV = true ∧ b = inV x vs := by
  unfold tin at h
  split at h
  · rename_i x
    split at h
    · rename_i ts
      split at h
      · rename_i vs e
        split at h
        · rename_i hs
          rw [Bool.and_eq_true] at hs
          cases h
          exact ⟨x, ts, vs, rfl, .inl rfl, e, hs.1, hs.2, rfl⟩
        · cases h
      · cases h
    · rename_i ts
      split at h
      · rename_i vs e
        split at h
        · rename_i hs
          rw [Bool.and_eq_true] at hs
          cases h
          exact ⟨x, ts, vs, rfl, .inr rfl, e, hs.1, hs.2, rfl⟩
        · cases h
      · cases h
    · cases h
  · cases h
def roIn (neg : Bool) : T → T → RK → Prop := fun t u Q => ∃ b, tin t u = some b ∧ Q (false, .bl (if neg then !b else b))
theorem br_in {neg : Bool} : Br2 K (rIn K neg) (roIn neg) := by
  intro F H x y t u Rk Q s rx ry h k
  obtain ⟨b, e, q⟩ := h
  obtain ⟨z, ts, vs, rfl, hu, ev, f1, f2, rfl⟩ := tin_some e
  cases Rep.av_eq rx
  rcases hu with rfl | rfl
  · simp only [Rep] at ry
    obtain ⟨p, ws, rfl, h1, r1⟩ := ry
    cases avs_of r1 ev
    exact ⟨p, _, rfl, .inl (.of (s _ _ h1)), f1, f2, k _ _ _ q (.av s)⟩
  · simp only [Rep] at ry
    obtain ⟨p, ws, rfl, h1, r1⟩ := ry
    cases avs_of r1 ev
    exact ⟨p, _, rfl, .inr (.of (s _ _ h1)), f1, f2, k _ _ _ q (.av s)⟩
theorem qc_in : QC X .In (roIn false) := ⟨_, op_in_seq, br_in⟩
theorem qc_nin : QC X .NotIn (roIn true) := ⟨_, op_notIn_seq, br_in⟩
/-- one sign in a text -/
def roInS (neg : Bool) : T → T → RK → Prop := fun t u Q => ∃ (c : Nat) (z : Str), t = .str ⟨#[c]⟩ ∧ u = .str z ∧ Q (false, .bl (if neg then !decide (c ∈ z.cps.toList) else decide (c ∈ z.cps.toList)))
theorem qc_inS : QC X .In (roInS false) := ⟨_, op_in_sign, (by
  intro F H x y t u Rk Q s rx ry h k
  obtain ⟨c, z, rfl, rfl, q⟩ := h
  exact ⟨c, z, Rep.av_eq rx, Rep.av_eq ry, k _ _ _ q (.av s)⟩)⟩
theorem qc_ninS : QC X .NotIn (roInS true) := ⟨_, op_notIn_sign, (by
  intro F H x y t u Rk Q s rx ry h k
  obtain ⟨c, z, rfl, rfl, q⟩ := h
  exact ⟨c, z, Rep.av_eq rx, Rep.av_eq ry, k _ _ _ q (.av s)⟩)⟩

/-! ### dicts -/
def T.key? : T → Option Key
  | .av (.int i) => some (.inl i)
  | .av (.str x) => some (.inr x)
  | _ => none
theorem key_some {t : T} {k : Key} (h : t.key? = some k) : t = .av (kV k) := by
  cases t with
  | av v =>
    cases v with
    | int i => simp only [T.key?, Option.some.injEq] at h; subst h; rfl
    | str x => simp only [T.key?, Option.some.injEq] at h; subst h; rfl
    | _ => simp [T.key?] at h
  | _ => simp [T.key?] at h
/-- the value at a key -/
def dget {κ : Type} [DecidableEq κ] : List κ → List T → κ → Option T
  | k' :: ks, t :: ts, k => if k' = k then some t else dget ks ts k
  | _, _, _ => none
theorem dget_val {κ : Type} [DecidableEq κ] {F : Hp} {k : κ} : ∀ {ks : List κ} {ts : List T} {vs : List V}, RepL K F vs ts → ks.length = vs.length →
    match dget ks ts k with
    | some t => ∃ v, valV (ks.zip vs) k = some v ∧ Rep K F v t
    | none => valV (ks.zip vs) k = none
  | [], ts, vs, r, e => by cases vs <;> cases ts <;> simp_all [dget, valV]
  | k' :: ks, [], vs, r, e => by simp only [RepL] at r; subst r; simp at e
  | k' :: ks, t :: ts, vs, r, e => by
    simp only [RepL] at r
    obtain ⟨v, us, rfl, q, p⟩ := r
    by_cases h : k' = k
    · simp only [dget, h, if_true]
      exact ⟨v, by simp [valV, h], q⟩
    · simp only [dget, h, if_false, List.zip_cons_cons]
      rw [valV_neg (by exact h)]
      exact dget_val p (by simpa using e)
def roDGet : T → T → RK → Prop := fun t u Q => ∃ ks ts k r, t = .dct ks ts ∧ u.key? = some k ∧ dget ks ts k = some r ∧ Q (false, r)
theorem q_dget (hu : X.A.units + 1 < cLine) (ha : QE X a τa) (hb : QE X b τb) (hs : NoSl b) : QE X (.Subscript a b pos) (tq2 roDGet τa τb) := by
  refine weakE (pe_dget hu ha hb hs) fun σ H Rk ⟨F, A, env, Q, S, h, k⟩ => ?_
  refine lift_sh S h fun ra e1 x H1 F1 A1 q1 S1 st1 r1 => lift_sh S1 q1 fun rb e2 y H2 F2 A2 q2 S2 st2 r2 => ?_
  obtain ⟨ks, ts, key, r, ea, eb, eg, q⟩ := q2
  rw [ea] at r1
  rw [key_some eb] at r2
  have r1 := r1.mono st2.ff
  simp only [Rep] at r1
  obtain ⟨d, vs, rfl, hd, hl, rl⟩ := r1
  have g := dget_val (k := key) rl hl
  rw [eg] at g
  obtain ⟨v, ev, rv⟩ := g
  exact ⟨d, v, rfl, .inl ⟨_, key, Rd.mono S2.fh hd, Rep.av_eq r2, ev.symm⟩, k _ _ _ _ q ((Out.of S2 .refl rv).after (st1.trans st2))⟩
def roDIn (neg : Bool) : T → T → RK → Prop := fun t u Q => ∃ ks ts k, u = .dct ks ts ∧ t.key? = some k ∧ Q (false, .bl (if neg then !(dget ks ts k).isSome else (dget ks ts k).isSome))
theorem dget_isSome {κ : Type} [DecidableEq κ] {F : Hp} {k : κ} {ks : List κ} {ts : List T} {vs : List V} (r : RepL K F vs ts) (e : ks.length = vs.length) : (valV (ks.zip vs) k).isSome = (dget ks ts k).isSome := by
  have g := dget_val (k := k) r e
  split at g
  · rename_i t h
    obtain ⟨v, ev, _⟩ := g
    simp [ev, h]
  · rename_i h
    simp [g, h]
theorem q_din (hu : X.A.units + 1 < cLine) (ha : QE X a τa) (hb : QE X b τb) (hm : behindInMarks .In b = false := by rfl) : QE X (.Compare a [.In] [b] pos) (tq2 (roDIn false) τa τb) := by
  refine weakE (pe_cmp (pc_din hu ha hb) hm) fun σ H Rk ⟨F, A, env, Q, S, h, k⟩ => ?_
  refine lift_sh S h fun ra e1 x H1 F1 A1 q1 S1 st1 r1 => lift_sh S1 q1 fun rb e2 y H2 F2 A2 q2 S2 st2 r2 => ?_
  obtain ⟨ks, ts, key, eb, ea, q⟩ := q2
  rw [eb] at r2
  rw [key_some ea] at r1
  simp only [Rep] at r2
  obtain ⟨d, vs, rfl, hd, hl, rl⟩ := r2
  refine ⟨d, _, rfl, .inl ⟨_, key, Rd.mono S2.fh hd, Rep.av_eq r1, rfl⟩, ?_⟩
  rw [dget_isSome rl hl]
  exact k _ _ _ _ q ((Out.av S2 .refl).after (st1.trans st2))
theorem q_dnin (hu : X.A.units + 1 < cLine) (ha : QE X a τa) (hb : QE X b τb) (hm : behindInMarks .NotIn b = false := by rfl) : QE X (.Compare a [.NotIn] [b] pos) (tq2 (roDIn true) τa τb) := by
  refine weakE (pe_cmp (pc_dnotin hu ha hb) hm) fun σ H Rk ⟨F, A, env, Q, S, h, k⟩ => ?_
  refine lift_sh S h fun ra e1 x H1 F1 A1 q1 S1 st1 r1 => lift_sh S1 q1 fun rb e2 y H2 F2 A2 q2 S2 st2 r2 => ?_
  obtain ⟨ks, ts, key, eb, ea, q⟩ := q2
  rw [eb] at r2
  rw [key_some ea] at r1
  simp only [Rep] at r2
  obtain ⟨d, vs, rfl, hd, hl, rl⟩ := r2
  refine ⟨d, _, rfl, .inl ⟨_, key, Rd.mono S2.fh hd, Rep.av_eq r1, rfl⟩, ?_⟩
  rw [dget_isSome rl hl]
  exact k _ _ _ _ q ((Out.av S2 .refl).after (st1.trans st2))

/-! ### subscripts, slices -/
def roIx : T → T → RK → Prop := fun t u Q => (∃ ts i r, t = .lst ts ∧ u = .int i ∧ atI ts i = some r ∧ Q (false, r)) ∨ (∃ ts i r, t = .tup ts ∧ u = .int i ∧ atI ts i = some r ∧ Q (false, r)) ∨
  (∃ ts i r, t = .rd ts ∧ u = .int i ∧ atI ts i = some r ∧ Q (false, r)) ∨ ∃ z i c, t = .str z ∧ u = .int i ∧ z.length ≤ sizeLine ∧ atI z.cps.toList i = some c ∧ Q (false, .str ⟨#[c]⟩)
theorem atI_rep {F : Hp} {ts : List T} {vs : List V} {i : Int} {t : T} (r : RepL K F vs ts) (h : atI ts i = some t) : ∃ v, atI vs i = some v ∧ Rep K F v t := by
  unfold atI at h ⊢
  rw [r.length]
  cases e : ixN ts.length i with
  | none => rw [e] at h; cases h
  | some j =>
    rw [e] at h
    exact r.get h
theorem q_ix (ha : QE X a τa) (hb : QE X b τb) (hs : PlainIx b := by exact fun _ _ => rfl) : QE X (.Subscript a b pos) (tq2 roIx τa τb) := qe_ix ix_seq (by
  intro F H x y t u Rk Q s rx ry h k
  rcases h with ⟨ts, i, r, rfl, rfl, e, q⟩ | ⟨ts, i, r, rfl, rfl, e, q⟩ | ⟨ts, i, r, rfl, rfl, e, q⟩ | ⟨z, i, c, rfl, rfl, hl, e, q⟩
  · simp only [Rep] at rx
    obtain ⟨p, vs, rfl, h1, r1⟩ := rx
    obtain ⟨v, ev, rv⟩ := atI_rep r1 e
    exact .inl ⟨p, vs, i, v, rfl, Rep.av_eq ry, .of (s _ _ h1), ev, k _ _ _ q (.old s rv)⟩
  · simp only [Rep] at rx
    obtain ⟨p, vs, rfl, h1, r1⟩ := rx
    obtain ⟨v, ev, rv⟩ := atI_rep r1 e
    exact .inr (.inl ⟨p, vs, i, v, rfl, Rep.av_eq ry, .of (s _ _ h1), ev, k _ _ _ q (.old s rv)⟩)
  · simp only [Rep] at rx
    obtain ⟨p, vs, rfl, h1, r1⟩ := rx
    obtain ⟨v, ev, rv⟩ := atI_rep r1 e
    exact .inl ⟨p, vs, i, v, rfl, Rep.av_eq ry, s.seq h1, ev, k _ _ _ q (.old s rv)⟩
  · exact .inr (.inr ⟨z, i, c, Rep.av_eq rx, Rep.av_eq ry, hl, e, k _ _ _ q (.av s)⟩)) ha hb hs
/-- an optional part of a slice -/
abbrev TQO := Env → (Option Int → Env → Prop) → Prop
def liftO (K : PySem.W.Frag) (τ : TQO) : TO := fun σ H Rk => ∃ (F : Hp) (A : Addr → Prop) (env : Env) (Q : Option Int → Env → Prop), SR K σ H F A env ∧ τ env Q ∧
  ∀ o env' H', Q o env' → (∃ F' A', SR K σ H' F' A' env' ∧ Step H F A H' F' A') → Rk o H'
def QO (X : Cx) (e : Option Expr) (τ : TQO) : Prop := PO X e (liftO X.K τ)
def tqoN : TQO := fun env Q => Q none env
def tqoS (τ : TQ) : TQO := fun env Q => τ env fun r e => ∃ i, r.2 = .int i ∧ Q (some i) e
theorem qo_none : QO X none tqoN := ⟨fun pins s σ H Rk I h => po_none.run pins s σ H Rk I (by
  obtain ⟨F, A, env, Q, S, h, k⟩ := h
  exact k _ _ H h ⟨F, A, S, .refl⟩)⟩
theorem qo_some {e : Expr} {τ : TQ} (he : QE X e τ) : QO X (some e) (tqoS τ) := ⟨fun pins s σ H Rk I h => (po_some he).run pins s σ H Rk I (by
  obtain ⟨F, A, env, Q, S, h, k⟩ := h
  refine lift_sh S h fun r e1 v H1 F1 A1 q S1 st re => ?_
  obtain ⟨i, ei, q⟩ := q
  rw [ei] at re
  exact ⟨i, Rep.av_eq re, k _ _ H1 q ⟨F1, A1, S1, st⟩⟩)⟩
def cutT {α : Type} (xs : List α) (lo hi : Option Int) : List α := (xs.drop (HT.sIx xs.length 0 lo)).take (HT.sIx xs.length xs.length hi - HT.sIx xs.length 0 lo)
theorem RepL.cut {F : Hp} {ts : List T} {vs : List V} (r : RepL K F vs ts) (lo hi : Option Int) : RepL K F (cutV vs lo hi) (cutT ts lo hi) := by
  unfold cutV cutT
  rw [r.length]
  exact (r.drop _).take _
theorem cut_in {α : Type} {xs : List α} {lo hi : Option Int} {x : α} (h : x ∈ cutT xs lo hi) : x ∈ xs := List.mem_of_mem_drop (List.mem_of_mem_take h)
def roSl : T → Option Int → Option Int → RK → Prop := fun t lo hi Q => (∃ ts, t = .lst ts ∧ Q (mkL (cutT ts lo hi))) ∨ ∃ z, t = .str z ∧ z.length ≤ sizeLine ∧ Q (false, .str (cutS z lo hi))
def tqSl (ρ : T → Option Int → Option Int → RK → Prop) (τ : TQ) (τl τh : TQO) : TQ := fun env Q => τ env fun r e1 => τl e1 fun l e2 => τh e2 fun h e3 => ρ r.2 l h fun rr => Q rr e3
theorem q_sl {e : Expr} {lo hi : Option Expr} {p2 : Pos} {τ : TQ} {τl τh : TQO} (he : QE X e τ) (hl : QO X lo τl) (hh : QO X hi τh) : QE X (.Subscript e (.Slice lo hi none p2) pos) (tqSl roSl τ τl τh) := by
  refine weakE (pe_slice (sl_list.or sl_str) he hl hh) fun σ H Rk ⟨F, A, env, Q, S, h, k⟩ => ?_
  refine lift_sh S h fun r e1 x H1 F1 A1 q1 S1 st1 r1 => ⟨F1, A1, e1, _, S1, q1, fun l e2 H2 q2 ⟨F2, A2, S2, st2⟩ => ⟨F2, A2, e2, _, S2, q2, fun u e3 H3 q3 ⟨F3, A3, S3, st3⟩ => ?_⟩⟩
  have r1 := (r1.mono st2.ff).mono st3.ff
  have st := st1.trans (st2.trans st3)
  rcases q3 with ⟨ts, e, q⟩ | ⟨z, e, hz, q⟩
  · rw [e] at r1
    simp only [Rep] at r1
    obtain ⟨p, vs, rfl, h1, r1⟩ := r1
    exact .inl ⟨p, vs, rfl, .of (S3.fh _ _ h1), fun p' n => k _ _ _ _ q ((Out.new S3 (New.lst S3.fh (r1.cut l u) n)).after st)⟩
  · rw [e] at r1
    exact .inr ⟨z, Rep.av_eq r1, hz, k _ _ _ _ q ((Out.av S3 .refl).after st)⟩

/-! ### displays, if-expressions -/
def tqLst (τs : TQL) : TQ := fun env Q => τs env fun rs e => ∃ ts, vals rs = some ts ∧ ts.length ≤ sizeLine ∧ Q (mkL ts) e
theorem q_lst {es : List Expr} {τs : TQL} (h : QA X es τs) : QE X (.List es pos) (tqLst τs) := by
  refine weakE (pe_lst h) fun σ H Rk ⟨F, A, env, Q, S, h, k⟩ => ?_
  refine lift_args S h fun rs e1 vs H1 q1 O => ?_
  obtain ⟨ts, e, hl, q⟩ := q1
  obtain ⟨F1, A1, S1, st1, re⟩ := O.sh e
  exact ⟨by rw [re.length]; exact hl, fun p n => k _ _ _ _ q ((Out.new S1 (New.lst S1.fh re n)).after st1)⟩
def tqTup (τs : TQL) : TQ := fun env Q => τs env fun rs e => ∃ ts, vals rs = some ts ∧ ts.length ≤ sizeLine ∧ Q (ts.all T.isAv, .tup ts) e
theorem q_tup {es : List Expr} {τs : TQL} {x1 : Nat} (h : QA X es τs) : QE X (.Tuple es x1 pos) (tqTup τs) := by
  refine weakE (pe_tup h) fun σ H Rk ⟨F, A, env, Q, S, h, k⟩ => ?_
  refine lift_args S h fun rs e1 vs H1 q1 O => ?_
  obtain ⟨ts, e, hl, q⟩ := q1
  obtain ⟨F1, A1, S1, st1, re⟩ := O.sh e
  exact ⟨by rw [re.length]; exact hl, fun p n => k _ _ _ _ q ((Out.new S1 (New.tup S1.fh re n)).after st1)⟩
end
end Q
end

section
set_option maxRecDepth 100000
/-! Q4: tests, statements, loops, over trees. -/
namespace Q
open PySem L2

/-! ### tests -/
abbrev QB := Bool → Env → Prop
abbrev TQB := Env → QB → Prop
def liftT (K : PySem.W.Frag) (τ : TQB) : TT := fun σ H Rk => ∃ (F : Hp) (A : Addr → Prop) (env : Env) (Q : QB), SR K σ H F A env ∧ τ env Q ∧
  ∀ b env' H', Q b env' → (∃ F' A', SR K σ H' F' A' env' ∧ Step H F A H' F' A') → Rk b H'
def QT (X : Cx) (e : Expr) (τ : TQB) : Prop := PT X e (liftT X.K τ)
def QW (X : Cx) (e : Expr) (τ : TQB) : Prop := PW X e (liftT X.K τ)
def tqB (τ : TQ) : TQB := fun env Q => τ env fun r e => ∃ b, r.2 = .bl b ∧ Q b e
def tqAnd (τ υ : TQB) : TQB := fun env Q => τ env fun b e => if b = true then υ e Q else Q false e
def tqOr (τ υ : TQB) : TQB := fun env Q => τ env fun b e => if b = true then Q true e else υ e Q
def tqNot (τ : TQB) : TQB := fun env Q => τ env fun b e => Q (!b) e
def ttru : T → Option Bool
  | .av .non => some false
  | .av (.bl b) => some b
  | .av (.int i) => some (i != 0)
  | .av (.str x) => if x.length ≤ sizeLine then some ((x.length : Int) != 0) else none
  | .av _ => none
  | .lst ts => some !ts.isEmpty
  | .tup ts => some !ts.isEmpty
  | _ => none
def tqTru (τ : TQ) : TQB := fun env Q => τ env fun r e => ∃ b, ttru r.2 = some b ∧ Q b e
section
variable {X : Cx} {K : PySem.W.Frag} {a b c : Expr} {τa τb τc : TQ} {pos : Pos} {σ : St} {H F : Hp} {A : Addr → Prop} {env : Env}
theorem liftT_go {τ : TQB} {Q1 : QB} {Rk : Bool → Hp → Prop} (S : SR K σ H F A env) (h : τ env Q1) (k : ∀ b env1 H1 F1 A1, Q1 b env1 → SR K σ H1 F1 A1 env1 → Step H F A H1 F1 A1 → Rk b H1) : liftT K τ σ H Rk :=
  ⟨F, A, env, Q1, S, h, fun b env1 H1 q ⟨F1, A1, S1, st1⟩ => k b env1 H1 F1 A1 q S1 st1⟩
theorem qt_val (h : QE X a τa) (he : ∀ whole, isTrue a X.env whole = (do let v ← whole; standAt a.pos; holding [v] (truthy v)) := by intro _; rfl) : QT X a (tqB τa) := by
  refine weakT (pt_val h he) fun σ H Rk ⟨F, A, env, Q, S, h, k⟩ => ?_
  refine lift_sh S h fun r e1 v H1 F1 A1 q S1 st1 re => ?_
  obtain ⟨b, eb, q⟩ := q
  rw [eb] at re
  exact ⟨b, Rep.av_eq re, k _ _ _ q ⟨F1, A1, S1, st1⟩⟩
theorem qt_tru (h : QE X a τa) (he : ∀ whole, isTrue a X.env whole = (do let v ← whole; standAt a.pos; holding [v] (truthy v)) := by intro _; rfl) : QT X a (tqTru τa) := by
  refine weakT (pt_truth h he) fun σ H Rk ⟨F, A, env, Q, S, h, k⟩ => ?_
  refine lift_sh S h fun r e1 v H1 F1 A1 q S1 st1 re => ?_
  obtain ⟨b, eb, q⟩ := q
  obtain ⟨fl, t⟩ := r
  refine ⟨b, ?_, k _ _ _ q ⟨F1, A1, S1, st1⟩⟩
  replace eb : ttru t = some b := eb
  replace re : Rep X.K F1 v t := re
  unfold ttru at eb
  split at eb
  · cases Rep.av_eq re; cases eb; exact (rfl : false = false)
  · cases Rep.av_eq re; cases eb; exact rfl
  · cases Rep.av_eq re; cases eb; exact rfl
  · cases Rep.av_eq re
    split at eb
    · rename_i hl; cases eb; exact ⟨hl, rfl⟩
    · cases eb
  · cases eb
  · rename_i ts
    cases eb
    simp only [Rep] at re
    obtain ⟨p, vs, rfl, h1, r1⟩ := re
    refine .inl ⟨vs, .of (S1.fh _ _ h1), ?_⟩
    have := r1.length
    cases vs <;> cases ts <;> simp_all
  · rename_i ts
    cases eb
    simp only [Rep] at re
    obtain ⟨p, vs, rfl, h1, r1⟩ := re
    refine .inr (.inl ⟨vs, .of (S1.fh _ _ h1), ?_⟩)
    have := r1.length
    cases vs <;> cases ts <;> simp_all
  · cases eb
theorem q_cmp {op : CmpOp} {ρ : T → T → RK → Prop} (q : QC X op ρ) (ha : QE X a τa) (hb : QE X b τb) (hm : behindInMarks op b = false) : QE X (.Compare a [op] [b] pos) (tq2 ρ τa τb) := by
  obtain ⟨r, ho, br⟩ := q
  exact qe_cmp ho br ha hb hm
theorem qt_cmp {op : CmpOp} {ρ : T → T → RK → Prop} (q : QC X op ρ) (ha : QE X a τa) (hb : QE X b τb) (hm : behindInMarks op b = false) : QT X (.Compare a [op] [b] pos) (tqB (tq2 ρ τa τb)) := by
  obtain ⟨r, ho, br⟩ := q
  refine weakT (pt_cmpR ho ha hb hm) fun σ H Rk ⟨F, A, env, Q, S, h, k⟩ => ?_
  refine lift2 br ⟨F, A, env, _, S, h, fun r e1 v H1 q O => ?_⟩
  obtain ⟨bb, eb, q⟩ := q
  obtain ⟨F1, A1, S1, st1, re⟩ := O.sh
  rw [eb] at re
  exact ⟨bb, Rep.av_eq re, k _ _ _ q ⟨F1, A1, S1, st1⟩⟩
theorem qt_din (hu : X.A.units + 1 < cLine) (ha : QE X a τa) (hb : QE X b τb) (hm : behindInMarks .In b = false := by rfl) : QT X (.Compare a [.In] [b] pos) (tqB (tq2 (roDIn false) τa τb)) := by
  refine weakT (pt_cmp (pc_din hu ha hb) hm) fun σ H Rk ⟨F, A, env, Q, S, h, k⟩ => ?_
  refine lift_sh S h fun ra e1 x H1 F1 A1 q1 S1 st1 r1 => lift_sh S1 q1 fun rb e2 y H2 F2 A2 q2 S2 st2 r2 => ?_
  obtain ⟨ks, ts, key, eb, ea, q⟩ := q2
  rw [eb] at r2
  rw [key_some ea] at r1
  simp only [Rep] at r2
  obtain ⟨d, vs, rfl, hd, hl, rl⟩ := r2
  refine ⟨d, _, rfl, .inl ⟨_, key, Rd.mono S2.fh hd, Rep.av_eq r1, rfl⟩, ?_⟩
  rw [dget_isSome rl hl]
  obtain ⟨bb, e, q⟩ := q
  refine ⟨bb, ?_, k _ _ _ q ⟨F2, A2, S2, st1.trans st2⟩⟩
  simp only [Bool.false_eq_true, if_false, T.av.injEq] at e
  exact e
theorem qt_dnin (hu : X.A.units + 1 < cLine) (ha : QE X a τa) (hb : QE X b τb) (hm : behindInMarks .NotIn b = false := by rfl) : QT X (.Compare a [.NotIn] [b] pos) (tqB (tq2 (roDIn true) τa τb)) := by
  refine weakT (pt_cmp (pc_dnotin hu ha hb) hm) fun σ H Rk ⟨F, A, env, Q, S, h, k⟩ => ?_
  refine lift_sh S h fun ra e1 x H1 F1 A1 q1 S1 st1 r1 => lift_sh S1 q1 fun rb e2 y H2 F2 A2 q2 S2 st2 r2 => ?_
  obtain ⟨ks, ts, key, eb, ea, q⟩ := q2
  rw [eb] at r2
  rw [key_some ea] at r1
  simp only [Rep] at r2
  obtain ⟨d, vs, rfl, hd, hl, rl⟩ := r2
  refine ⟨d, _, rfl, .inl ⟨_, key, Rd.mono S2.fh hd, Rep.av_eq r1, rfl⟩, ?_⟩
  rw [dget_isSome rl hl]
  obtain ⟨bb, e, q⟩ := q
  refine ⟨bb, ?_, k _ _ _ q ⟨F2, A2, S2, st1.trans st2⟩⟩
  simp only [if_true, T.av.injEq] at e
  exact e
variable {ta tb : TQB} {rest : List Expr}
theorem qw_and1 (ha : QT X a ta) : QW X (.BoolOp .And [a] pos) ta := pw_and1 ha
theorem qw_or1 (ha : QT X a ta) : QW X (.BoolOp .Or [a] pos) ta := pw_or1 ha
theorem weakW {e : Expr} {t t' : TT} (h : PW X e t) (w : ∀ σ H Rk, t' σ H Rk → t σ H Rk) : PW X e t' := ⟨fun wh pins s σ H Rk I q => h.run wh pins s σ H Rk I (w σ H Rk q)⟩
theorem qw_and (ha : QT X a ta) (hb : QW X (.BoolOp .And (b :: rest) pos) tb) : QW X (.BoolOp .And (a :: b :: rest) pos) (tqAnd ta tb) := by
  refine weakW (pw_and ha hb) fun σ H Rk ⟨F, A, env, Q, S, h, k⟩ => ?_
  refine liftT_go S h fun c e1 H1 F1 A1 q S1 st1 => ?_
  cases c with
  | false => exact k _ _ _ q ⟨F1, A1, S1, st1⟩
  | true => exact liftT_go S1 q fun d e2 H2 F2 A2 q S2 st2 => k _ _ _ q ⟨F2, A2, S2, st1.trans st2⟩
theorem qw_or (ha : QT X a ta) (hb : QW X (.BoolOp .Or (b :: rest) pos) tb) : QW X (.BoolOp .Or (a :: b :: rest) pos) (tqOr ta tb) := by
  refine weakW (pw_or ha hb) fun σ H Rk ⟨F, A, env, Q, S, h, k⟩ => ?_
  refine liftT_go S h fun c e1 H1 F1 A1 q S1 st1 => ?_
  cases c with
  | true => exact k _ _ _ q ⟨F1, A1, S1, st1⟩
  | false => exact liftT_go S1 q fun d e2 H2 F2 A2 q S2 st2 => k _ _ _ q ⟨F2, A2, S2, st1.trans st2⟩
theorem QW.qt {e : Expr} (h : QW X e ta) : QT X e ta := PW.pt h
theorem qt_not (ha : QT X a ta) : QT X (.UnaryOp .Not a pos) (tqNot ta) := by
  refine weakT (pt_not ha) fun σ H Rk ⟨F, A, env, Q, S, h, k⟩ => ?_
  exact liftT_go S h fun c e1 H1 F1 A1 q S1 st1 => k _ _ _ q ⟨F1, A1, S1, st1⟩
/-- and, or, not as values of truth values -/
def tqAndV (τ υ : TQ) : TQ := fun env Q => τ env fun r e => ∃ c, r.2 = .bl c ∧ if c = true then υ e Q else Q (false, .bl false) e
def tqOrV (τ υ : TQ) : TQ := fun env Q => τ env fun r e => ∃ c, r.2 = .bl c ∧ if c = true then Q (false, .bl true) e else υ e Q
def tqNotV (τ : TQ) : TQ := fun env Q => τ env fun r e => ∃ c, r.2 = .bl c ∧ Q (false, .bl (!c)) e
theorem q_one {op} (h : QE X a τa) : QE X (.BoolOp op [a] pos) τa := pe_one h
theorem q_and (ha : QE X a τa) (hb : QE X (.BoolOp .And (b :: rest) pos) τb) : QE X (.BoolOp .And (a :: b :: rest) pos) (tqAndV τa τb) := by
  refine weakE (pe_and ha hb) fun σ H Rk ⟨F, A, env, Q, S, h, k⟩ => ?_
  refine lift_sh S h fun r e1 v H1 F1 A1 q S1 st1 re => ?_
  obtain ⟨c, ec, q⟩ := q
  rw [ec] at re
  refine ⟨c, Rep.av_eq re, ?_⟩
  cases c with
  | false => exact k _ _ _ _ q ((Out.av S1 .refl).after st1)
  | true => exact lift_own S1 q fun r e2 v H2 q O => k _ _ _ _ q (O.after st1)
theorem q_or (ha : QE X a τa) (hb : QE X (.BoolOp .Or (b :: rest) pos) τb) : QE X (.BoolOp .Or (a :: b :: rest) pos) (tqOrV τa τb) := by
  refine weakE (pe_or ha hb) fun σ H Rk ⟨F, A, env, Q, S, h, k⟩ => ?_
  refine lift_sh S h fun r e1 v H1 F1 A1 q S1 st1 re => ?_
  obtain ⟨c, ec, q⟩ := q
  rw [ec] at re
  refine ⟨c, Rep.av_eq re, ?_⟩
  cases c with
  | true => exact k _ _ _ _ q ((Out.av S1 .refl).after st1)
  | false => exact lift_own S1 q fun r e2 v H2 q O => k _ _ _ _ q (O.after st1)
theorem q_not (ha : QE X a τa) : QE X (.UnaryOp .Not a pos) (tqNotV τa) := by
  refine weakE (pe_not ha) fun σ H Rk ⟨F, A, env, Q, S, h, k⟩ => ?_
  refine lift_sh S h fun r e1 v H1 F1 A1 q S1 st1 re => ?_
  obtain ⟨c, ec, q⟩ := q
  rw [ec] at re
  exact ⟨c, Rep.av_eq re, k _ _ _ _ q ((Out.av S1 .refl).after st1)⟩
def tqIf (t : TQB) (τ υ : TQ) : TQ := fun env Q => t env fun c e => if c = true then τ e Q else υ e Q
theorem q_if (hc : QT X c ta) (ha : QE X a τa) (hb : QE X b τb) : QE X (.IfExp c a b pos) (tqIf ta τa τb) := by
  refine weakE (pe_ifExp hc ha hb) fun σ H Rk ⟨F, A, env, Q, S, h, k⟩ => ?_
  refine liftT_go S h fun c e1 H1 F1 A1 q S1 st1 => ?_
  cases c with
  | true => exact lift_own S1 q fun r e2 v H2 q O => k _ _ _ _ q (O.after st1)
  | false => exact lift_own S1 q fun r e2 v H2 q O => k _ _ _ _ q (O.after st1)
/-- a op b op' c -/
def tqChain (ρ ρ' : T → T → RK → Prop) (τa τb τc : TQ) : TQ := fun env Q => τa env fun ra e1 => τb e1 fun rb e2 => ρ ra.2 rb.2 fun rr => ∃ k, rr.2 = .bl k ∧
  if k = true then τc e2 fun rc e3 => ρ' rb.2 rc.2 fun r2 => Q r2 e3 else Q (false, .bl false) e2
theorem lift_chain {r r' : R2} {ρ ρ' : T → T → RK → Prop} (br : Br2 K r ρ) (br' : Br2 K r' ρ') {Rk : VK} (h : lift K (tqChain ρ ρ' τa τb τc) σ H Rk) : tChain r r' (lift K τa) (lift K τb) (lift K τc) σ H Rk := by
  obtain ⟨F, A, env, Q, S, h, k⟩ := h
  refine lift_sh S h fun ra e1 x H1 F1 A1 q1 S1 st1 r1 => lift_sh S1 q1 fun rb e2 y H2 F2 A2 q2 S2 st2 r2 => ?_
  refine br F2 H2 x y _ _ _ _ S2.fh (r1.mono st2.ff) r2 q2 fun rr v H' q n => ?_
  obtain ⟨kk, ek, q⟩ := q
  obtain ⟨F3, A3, S3, st3, re⟩ := (Out.new S2 n).sh
  rw [ek] at re
  refine ⟨kk, Rep.av_eq re, ?_⟩
  have st := (st1.trans st2).trans st3
  cases kk with
  | false => exact k _ _ _ _ q ((Out.av S3 .refl).after st)
  | true =>
    refine lift_sh S3 q fun rc e3 z H4 F4 A4 q4 S4 st4 r4 => ?_
    exact br' F4 H4 y z _ _ Rk _ S4.fh ((r2.mono st3.ff).mono st4.ff) r4 q4 fun rr v H' q n => k _ _ _ _ q ((Out.new S4 n).after (st.trans st4))
theorem q_chain {op op' : CmpOp} {ρ ρ' : T → T → RK → Prop} (q : QC X op ρ) (q' : QC X op' ρ') (ha : QE X a τa) (hb : QE X b τb) (hc : QE X c τc) (hm : lastMarks [op, op'] [b, c] = false := by with_unfolding_all rfl) : QE X (.Compare a [op, op'] [b, c] pos) (tqChain ρ ρ' τa τb τc) := by
  obtain ⟨r, ho, br⟩ := q
  obtain ⟨r', ho', br'⟩ := q'
  exact weakE (pe_chain ho ho' ha hb hc hm) fun _ _ _ h => lift_chain br br' h
theorem qt_chain {op op' : CmpOp} {ρ ρ' : T → T → RK → Prop} (q : QC X op ρ) (q' : QC X op' ρ') (ha : QE X a τa) (hb : QE X b τb) (hc : QE X c τc) (hm : lastMarks [op, op'] [b, c] = false := by with_unfolding_all rfl) : QT X (.Compare a [op, op'] [b, c] pos) (tqB (tqChain ρ ρ' τa τb τc)) := by
  obtain ⟨r, ho, br⟩ := q
  obtain ⟨r', ho', br'⟩ := q'
  refine weakT (pt_chain ho ho' ha hb hc hm) fun σ H Rk ⟨F, A, env, Q, S, h, k⟩ => ?_
  refine lift_chain br br' ⟨F, A, env, _, S, h, fun r e1 v H1 q O => ?_⟩
  obtain ⟨bb, eb, q⟩ := q
  obtain ⟨F1, A1, S1, st1, re⟩ := O.sh
  rw [eb] at re
  exact ⟨bb, Rep.av_eq re, k _ _ _ q ⟨F1, A1, S1, st1⟩⟩
end

/-! ### statements -/
structure DQ where
  nx : Env → Prop
  rt : R → Env → Prop
  bk : Env → Prop := fun _ => False
  ct : Env → Prop := fun _ => False
abbrev TSQ := DQ → Env → Prop
/-- the pinned slots stand -/
def Pin (pn : List Nat) (σ σ' : St) : Prop := σ'.length = σ.length ∧ ∀ i ∈ pn, σ'[i]? = σ[i]?
theorem Pin.refl {pn : List Nat} {σ : St} : Pin pn σ σ := ⟨rfl, fun _ _ => rfl⟩
theorem Pin.trans {pn : List Nat} {σ σ1 σ2 : St} (a : Pin pn σ σ1) (b : Pin pn σ1 σ2) : Pin pn σ σ2 := ⟨b.1.trans a.1, fun i hi => (b.2 i hi).trans (a.2 i hi)⟩
theorem Pin.set {pn : List Nat} {σ : St} {i : Nat} {x : Option V} (h : i ∉ pn) : Pin pn σ (σ.set i x) := ⟨List.length_set, fun j hj => List.getElem?_set_ne (fun (e : i = j) => h (by rw [e]; exact hj))⟩
def OutS (K : PySem.W.Frag) (pn : List Nat) (σ : St) (H F : Hp) (A : Addr → Prop) (σ' : St) (env' : Env) (H' : Hp) : Prop :=
  ∃ F' A', SR K σ' H' F' A' env' ∧ Step H F A H' F' A' ∧ Pin pn σ σ'
def OutRt (K : PySem.W.Frag) (pn : List Nat) (σ : St) (H F : Hp) (A : Addr → Prop) (r : R) (env' : Env) (v : V) (H' : Hp) : Prop :=
  ∃ (σ' : St) (F' : Hp) (A' : Addr → Prop) (Ar : List Addr), SR K σ' H' F' A' env' ∧ Step H F A H' F' A' ∧ Pin pn σ σ' ∧ Res K F' H' r v Ar ∧ Ar.Nodup ∧ ∀ a ∈ Ar, (H a = none ∨ A a) ∧ ¬ A' a ∧ F' a = none
structure Ads (K : PySem.W.Frag) (pn : List Nat) (σ : St) (H F : Hp) (A : Addr → Prop) (D : Ends) (E : DQ) : Prop where
  nx : ∀ e' σ' H', E.nx e' → OutS K pn σ H F A σ' e' H' → D.nx σ' H'
  rt : ∀ r e' v H', E.rt r e' → OutRt K pn σ H F A r e' v H' → D.rt v H'
  bk : ∀ e' σ' H', E.bk e' → OutS K pn σ H F A σ' e' H' → D.bk σ' H'
  ct : ∀ e' σ' H', E.ct e' → OutS K pn σ H F A σ' e' H' → D.ct σ' H'
def liftS (K : PySem.W.Frag) (pn : List Nat) (τ : TSQ) : TS := fun D σ H => ∃ (F : Hp) (A : Addr → Prop) (env : Env) (E : DQ), SR K σ H F A env ∧ τ E env ∧ Ads K pn σ H F A D E
def QS (X : Cx) (pn : List Nat) (st : Stmt) (τ : TSQ) : Prop := PS X st (liftS X.K pn τ)
def QSs (X : Cx) (pn : List Nat) (st : List Stmt) (τ : TSQ) : Prop := PSs X st (liftS X.K pn τ)
theorem OutS.after {K : PySem.W.Frag} {pn : List Nat} {σ σ1 : St} {H F H1 F1 : Hp} {A A1 : Addr → Prop} {σ' : St} {e' : Env} {H' : Hp} (st : Step H F A H1 F1 A1) (p : Pin pn σ σ1) (O : OutS K pn σ1 H1 F1 A1 σ' e' H') : OutS K pn σ H F A σ' e' H' := by
  obtain ⟨F', A', S, s2, p2⟩ := O
  exact ⟨F', A', S, st.trans s2, p.trans p2⟩
theorem OutRt.after {K : PySem.W.Frag} {pn : List Nat} {σ σ1 : St} {H F H1 F1 : Hp} {A A1 : Addr → Prop} {r : R} {e' : Env} {v : V} {H' : Hp} (st : Step H F A H1 F1 A1) (p : Pin pn σ σ1) (O : OutRt K pn σ1 H1 F1 A1 r e' v H') : OutRt K pn σ H F A r e' v H' := by
  obtain ⟨σ', F', A', Ar, S, s2, p2, re, nd, fr⟩ := O
  exact ⟨σ', F', A', Ar, S, st.trans s2, p.trans p2, re, nd, fun a ha => ⟨st.src (fr a ha).1, (fr a ha).2⟩⟩
theorem Ads.after {K : PySem.W.Frag} {pn : List Nat} {σ σ1 : St} {H F H1 F1 : Hp} {A A1 : Addr → Prop} {D : Ends} {E : DQ} (a : Ads K pn σ H F A D E) (st : Step H F A H1 F1 A1) (p : Pin pn σ σ1) : Ads K pn σ1 H1 F1 A1 D E :=
  ⟨fun e' σ' H' q O => a.nx e' σ' H' q (O.after st p), fun r e' v H' q O => a.rt r e' v H' q (O.after st p), fun e' σ' H' q O => a.bk e' σ' H' q (O.after st p), fun e' σ' H' q O => a.ct e' σ' H' q (O.after st p)⟩
/-- a slot is stored -/
theorem SR.set {K : PySem.W.Frag} {σ : St} {H F : Hp} {A : Addr → Prop} {env : Env} (S : SR K σ H F A env) {i : Nat} {r : R} {v : V} {Ar : List Addr} (re : Res K F H r v Ar) (nd : Ar.Nodup) (fr : ∀ a ∈ Ar, ¬ A a ∧ F a = none) :
    SR K (σ.set i (some v)) H F (fun a => A a ∨ a ∈ Ar) (env.set i (some r)) := by
  obtain ⟨fh, ah, le, As, h1, h2, h3, h4⟩ := S
  refine ⟨fh, fun a ha => ha.elim (ah a) (re.there a), by simpa using le, fun j => if j = i then Ar else As j, fun j r' e => ?_, fun j => ?_, fun j l hjl a ha hb => ?_, fun j a ha => ?_⟩
  · by_cases hj : j = i
    · subst hj
      have hl : j < env.length := by
        rcases Nat.lt_or_ge j env.length with z | z
        · exact z
        · rw [List.getElem?_eq_none (by simpa using z)] at e; cases e
      rw [List.getElem?_set_self hl] at e
      cases e
      exact ⟨v, List.getElem?_set_self (by omega), by simpa using re⟩
    · rw [List.getElem?_set_ne (Ne.symm hj)] at e
      obtain ⟨w, e1, q⟩ := h1 j r' e
      exact ⟨w, by rw [List.getElem?_set_ne (Ne.symm hj)]; exact e1, by simpa [hj] using q⟩
  · by_cases hj : j = i
    · simpa [hj] using nd
    · simpa [hj] using h2 j
  · by_cases hj : j = i
    · by_cases hl : l = i
      · exact hjl (hj.trans hl.symm)
      · simp only [hj, hl, if_true, if_false] at ha hb
        exact (fr a ha).1 (h4 l a hb).1
    · by_cases hl : l = i
      · simp only [hj, hl, if_true, if_false] at ha hb
        exact (fr a hb).1 (h4 j a ha).1
      · simp only [hj, hl, if_false] at ha hb
        exact h3 j l hjl a ha hb
  · by_cases hj : j = i
    · simp only [hj, if_true] at ha
      exact ⟨.inr ha, (fr a ha).2⟩
    · simp only [hj, if_false] at ha
      exact ⟨.inl (h4 j a ha).1, (h4 j a ha).2⟩
theorem Step.wide {H F : Hp} {A : Addr → Prop} {H' F' : Hp} {A' : Addr → Prop} (st : Step H F A H' F' A') {Ar : List Addr} (fr : ∀ a ∈ Ar, H a = none ∨ A a) : Step H F A H' F' (fun a => A' a ∨ a ∈ Ar) :=
  ⟨st.ff, st.hh, st.dom, fun b h => h.elim (st.an b) fun z => (fr b z).symm, st.fn⟩
section
variable {X : Cx} {K : PySem.W.Frag} {pn : List Nat} {a b c e : Expr} {τ τa τb τc : TQ} {t u : TSQ} {pos : Pos} {st : Stmt} {rest : List Stmt} {ta : TQB}
def sqNext : TSQ := fun D env => D.nx env
def sqSeq (t u : TSQ) : TSQ := fun D env => t { D with nx := u D } env
theorem qss_nil : QSs X pn [] sqNext := weakSs pss_nil fun D σ H ⟨F, A, env, E, S, h, ad⟩ => ad.nx _ _ _ h ⟨F, A, S, .refl, .refl⟩
theorem qss_cons (h1 : QS X pn st t) (h2 : QSs X pn rest u) : QSs X pn (st :: rest) (sqSeq t u) := by
  refine weakSs (pss_cons h1 h2) fun D σ H ⟨F, A, env, E, S, h, ad⟩ => ?_
  exact ⟨F, A, env, _, S, h, fun e' σ' H' q ⟨F', A', S', st', p⟩ => ⟨F', A', e', E, S', q, ad.after st' p⟩, ad.rt, ad.bk, ad.ct⟩
theorem qss_one (h1 : QS X pn st t) : QSs X pn [st] t := weakSs (pss_one h1) fun D σ H h => h
def sqPass : TSQ := fun D env => D.nx env
theorem qs_pass : QS X pn (.Pass pos) sqNext := weakS ps_pass fun D σ H ⟨F, A, env, E, S, h, ad⟩ => ad.nx _ _ _ h ⟨F, A, S, .refl, .refl⟩
def sqBreak : TSQ := fun D env => D.bk env
def sqCont : TSQ := fun D env => D.ct env
theorem qs_break : QS X pn (.Break pos) sqBreak := weakS ps_break fun D σ H ⟨F, A, env, E, S, h, ad⟩ => ad.bk _ _ _ h ⟨F, A, S, .refl, .refl⟩
theorem qs_continue : QS X pn (.Continue pos) sqCont := weakS ps_continue fun D σ H ⟨F, A, env, E, S, h, ad⟩ => ad.ct _ _ _ h ⟨F, A, S, .refl, .refl⟩
def sqNever : TSQ := fun _ _ => False
theorem qs_never : QS X pn st sqNever := weakS ps_never fun D σ H ⟨F, A, env, E, S, h, ad⟩ => h.elim
theorem qss_never {sts : List Stmt} : QSs X pn sts sqNever := weakSs pss_never fun D σ H ⟨F, A, env, E, S, h, ad⟩ => h.elim
def sqRet (τ : TQ) : TSQ := fun D env => τ env D.rt
theorem qs_ret (he : QE X e τ) : QS X pn (.Return (some e) pos) (sqRet τ) := by
  refine weakS (ps_ret he) fun D σ H ⟨F, A, env, E, S, h, ad⟩ => ?_
  exact lift_own S h fun r e1 v H1 q ⟨F1, A1, Ar, S1, st1, re, nd, fr⟩ => ad.rt _ _ _ _ q ⟨σ, F1, A1, Ar, S1, st1, .refl, re, nd, fr⟩
def sqRetN : TSQ := fun D env => D.rt (false, .non) env
theorem qs_retN : QS X pn (.Return none pos) sqRetN := by
  refine weakS ps_retN fun D σ H ⟨F, A, env, E, S, h, ad⟩ => ?_
  exact ad.rt _ _ _ _ h ⟨σ, F, A, [], S, .refl, .refl, Res.of_av, List.nodup_nil, by simp⟩
def sqExpr (τ : TQ) : TSQ := fun D env => τ env fun _ e => D.nx e
theorem qs_expr (he : QE X e τ) (hs : swapsWith e none pos.line X.env = pure false := by rfl) : QS X pn (.Expr e pos) (sqExpr τ) := by
  refine weakS (ps_expr he hs) fun D σ H ⟨F, A, env, E, S, h, ad⟩ => ?_
  exact lift_sh S h fun r e1 v H1 F1 A1 q S1 st1 re => ad.nx _ _ _ q ⟨F1, A1, S1, st1, .refl⟩
def sqIf (c : TQB) (t u : TSQ) : TSQ := fun D env => c env fun b e => if b = true then t D e else u D e
theorem qs_if {ss us : List Stmt} (hc : QT X c ta) (ha : QSs X pn ss t) (hb : QSs X pn us u) : QS X pn (.If c ss us pos) (sqIf ta t u) := by
  refine weakS (ps_if hc ha hb) fun D σ H ⟨F, A, env, E, S, h, ad⟩ => ?_
  refine liftT_go S h fun c e1 H1 F1 A1 q S1 st1 => ?_
  cases c with
  | true => exact ⟨F1, A1, e1, E, S1, q, ad.after st1 .refl⟩
  | false => exact ⟨F1, A1, e1, E, S1, q, ad.after st1 .refl⟩
/-- x = e, owned or shared as it comes -/
def sqSet (i : Nat) (τ : TQ) : TSQ := fun D env => τ env fun r e => D.nx (e.set i (some r))
theorem qs_set {i : Nat} (h : PS X st (tAsg (lift X.K τ) (gName i))) (hp : i ∉ pn := by simp) : QS X pn st (sqSet i τ) := by
  refine weakS h fun D σ H ⟨F, A, env, E, S, h, ad⟩ => ?_
  refine lift_own S h fun r e1 v H1 q ⟨F1, A1, Ar, S1, st1, re, nd, fr⟩ => ?_
  exact ad.nx _ _ _ q ⟨F1, _, S1.set re nd fun a ha => ⟨(fr a ha).2.1, (fr a ha).2.2⟩, st1.wide fun a ha => (fr a ha).1, Pin.set hp⟩
/-- x op= e of scalars -/
def sqAug (i : Nat) (τ : TQ) (ρ : T → T → RK → Prop) : TSQ := fun D env => ∃ x fl, env[i]? = some (some (fl, .av x)) ∧ τ env fun r e => ρ (.av x) r.2 fun rr => D.nx (e.set i (some rr))
theorem qs_aug {i : Nat} {ti : TIp} {ρ : T → T → RK → Prop} (h : PS X st (tAug i (lift X.K τ) ti)) (br : Br2 X.K ti ρ) (hp : i ∉ pn := by simp) : QS X pn st (sqAug i τ ρ) := by
  refine weakS h fun D σ H ⟨F, A, env, E, S, h, ad⟩ => ?_
  obtain ⟨x, fl, ex, h⟩ := h
  obtain ⟨As, h1, _⟩ := id S.sl
  obtain ⟨v, e1, re⟩ := h1 i _ ex
  obtain ⟨rfl, _⟩ := Res.av re
  refine ⟨v, e1, lift_sh S h fun r e1 y H1 F1 A1 q S1 st1 r1 => ?_⟩
  refine br F1 H1 v y _ _ _ _ S1.fh (by simp [Rep]) r1 q fun rr w H2 q n => ?_
  obtain ⟨F2, A2, Ar, S2, st2, re, nd, fr⟩ := (Out.new S1 n).after st1
  exact ad.nx _ _ _ q ⟨F2, _, S2.set re nd fun a ha => ⟨(fr a ha).2.1, (fr a ha).2.2⟩, st2.wide fun a ha => (fr a ha).1, Pin.set hp⟩

/-! ### targets -/
abbrev TGQ := T → Env → (Env → Prop) → Prop
def liftG (K : PySem.W.Frag) (ws : List Nat) (γ : TGQ) : TG := fun v σ H Rk => ∃ (F : Hp) (A : Addr → Prop) (env : Env) (t : T) (Q : Env → Prop), SR K σ H F A env ∧ Rep K F v t ∧ γ t env Q ∧
  ∀ env' σ', Q env' → SR K σ' H F A env' → (σ'.length = σ.length ∧ ∀ i, i ∉ ws → σ'[i]? = σ[i]?) → Rk σ' H
def QG (X : Cx) (tg : Expr) (ws : List Nat) (γ : TGQ) : Prop := PG X tg (liftG X.K ws γ)
theorem weakG {tg : Expr} {g g' : TG} (h : PG X tg g) (w : ∀ v σ H Rk, g' v σ H Rk → g v σ H Rk) : PG X tg g' := ⟨fun pins s σ H v u Q I r q => h.run pins s σ H v u Q I r (w v σ H Q q)⟩
def gqName (i : Nat) : TGQ := fun t env Q => Q (env.set i (some (false, t)))
theorem SR.setSh {σ : St} {H F : Hp} {A : Addr → Prop} {env : Env} (S : SR K σ H F A env) {i : Nat} {t : T} {v : V} (re : Rep K F v t) : SR K (σ.set i (some v)) H F A (env.set i (some (false, t))) := by
  have := S.set (i := i) (r := (false, t)) (v := v) (Ar := []) (by rw [Res.ff]; exact ⟨rfl, re⟩) List.nodup_nil (by simp)
  obtain ⟨fh, ah, le, As, h1, h2, h3, h4⟩ := this
  exact ⟨fh, S.ah, le, As, h1, h2, h3, fun i a ha => ⟨(h4 i a ha).1.elim id (by simp), (h4 i a ha).2⟩⟩
theorem gq_name {i : Nat} {tg : Expr} (h : PG X tg (gName i)) : QG X tg [i] (gqName i) := by
  refine weakG h fun v σ H Rk ⟨F, A, env, t, Q, S, re, h, k⟩ => ?_
  exact k _ _ h (S.setSh re) ⟨List.length_set, fun j hj => List.getElem?_set_ne (fun e => hj (by simp [e]))⟩
/-- several targets for several trees -/
abbrev TGQs := List T → Env → (Env → Prop) → Prop
def liftGs (K : PySem.W.Frag) (ws : List Nat) (γ : TGQs) : TGs := fun vs σ H Rk => ∃ (F : Hp) (A : Addr → Prop) (env : Env) (ts : List T) (Q : Env → Prop), SR K σ H F A env ∧ RepL K F vs ts ∧ γ ts env Q ∧
  ∀ env' σ', Q env' → SR K σ' H F A env' → (σ'.length = σ.length ∧ ∀ i, i ∉ ws → σ'[i]? = σ[i]?) → Rk σ' H
def QGs (X : Cx) (tgs : List Expr) (ws : List Nat) (γ : TGQs) : Prop := PGs X tgs (liftGs X.K ws γ)
theorem weakGs {tg : List Expr} {g g' : TGs} (h : PGs X tg g) (w : ∀ v σ H Rk, g' v σ H Rk → g v σ H Rk) : PGs X tg g' := ⟨fun pins s σ H v u Q I r q => h.run pins s σ H v u Q I r (w v σ H Q q)⟩
def gqNil : TGQs := fun ts env Q => ts = [] ∧ Q env
def gqCons (γ : TGQ) (γs : TGQs) : TGQs := fun ts env Q => ∃ t r, ts = t :: r ∧ γ t env fun e1 => γs r e1 Q
theorem gqs_nil : QGs X [] [] gqNil := by
  refine weakGs pgs_nil fun vs σ H Rk ⟨F, A, env, ts, Q, S, re, h, k⟩ => ?_
  obtain ⟨rfl, h⟩ := h
  simp only [RepL] at re
  exact ⟨re, k _ _ h S ⟨rfl, fun _ _ => rfl⟩⟩
theorem gqs_cons {tg : Expr} {tgs : List Expr} {ws1 ws2 : List Nat} {γ : TGQ} {γs : TGQs} (h1 : QG X tg ws1 γ) (h2 : QGs X tgs ws2 γs) (hs : (assignEach (tg :: tgs) X.env).map (·.2) = assign tg X.env :: (assignEach tgs X.env).map (·.2) := by rfl) : QGs X (tg :: tgs) (ws1 ++ ws2) (gqCons γ γs) := by
  refine weakGs (pgs_cons h1 h2 hs) fun vs σ H Rk ⟨F, A, env, ts, Q, S, re, h, k⟩ => ?_
  obtain ⟨t, r, rfl, h⟩ := h
  simp only [RepL] at re
  obtain ⟨v, us, rfl, rv, rl⟩ := re
  refine ⟨v, us, rfl, F, A, env, t, _, S, rv, h, fun e1 σ1 q S1 p1 => ⟨F, A, e1, r, Q, S1, rl, q, fun e2 σ2 q S2 p2 => k _ _ q S2 ⟨p2.1.trans p1.1, fun i hi => ?_⟩⟩⟩
  simp only [List.mem_append, not_or] at hi
  exact (p2.2 i hi.2).trans (p1.2 i hi.1)
def gqTup (n : Nat) (γs : TGQs) : TGQ := fun t env Q => ∃ ts, t = .tup ts ∧ ts.length = n ∧ γs ts env Q
theorem gq_tup {es : List Expr} {k : Nat} {γs : TGQs} {n : Nat} {ws : List Nat} (hc : X.calm = true) (h : QGs X es ws γs) (hn : (assignEach es X.env).length = n := by rfl) (hst : (assignEach es X.env).findIdx? (·.1) = none := by rfl) : QG X (.Tuple es k pos) ws (gqTup n γs) := by
  refine weakG (pg_tup hc h hn hst) fun v σ H Rk ⟨F, A, env, t, Q, S, re, h, kk⟩ => ?_
  obtain ⟨ts, rfl, hl, h⟩ := h
  simp only [Rep] at re
  obtain ⟨a, vs, rfl, hq, rl⟩ := re
  exact ⟨a, vs, rfl, .of (S.fh _ _ hq), by rw [rl.length]; exact hl, F, A, env, ts, Q, S, rl, h, kk⟩
/-- targets = e, shared -/
def sqAsg (τ : TQ) (γ : TGQ) : TSQ := fun D env => τ env fun r e => γ r.2 e D.nx
theorem qs_asg {tg : Expr} {ws : List Nat} {γ : TGQ} (h : PS X st (tAsg (lift X.K τ) (liftG X.K ws γ))) (hp : ∀ i ∈ pn, i ∉ ws := by simp) : QS X pn st (sqAsg τ γ) := by
  refine weakS h fun D σ H ⟨F, A, env, E, S, h, ad⟩ => ?_
  refine lift_sh S h fun r e1 v H1 F1 A1 q S1 st1 re => ?_
  exact ⟨F1, A1, e1, r.2, _, S1, re, q, fun e2 σ2 q S2 p2 => ad.nx _ _ _ q ⟨F1, A1, S2, st1, p2.1, fun i hi => p2.2 i (hp i hi)⟩⟩
end
end Q
end

section
set_option maxRecDepth 100000
/-! Q5: loops and comprehensions over trees. -/
namespace Q
open PySem L2

/-! ### a dict locked while it is walked -/
def isDict : HO → Bool
  | .dK _ => true
  | .dT _ => true
  | _ => false
theorem mut_dict {u : HO} (h : isDict u = true) : Mut (some u) := by cases u <;> first | trivial | cases h
theorem lock_rd {F : Hp} {d a : Addr} {od : Obj} {u v : HO} (h : F d = some u) (hu : isDict u = true) (r : Rd F a v) : Rd (upd F d (.frz od u)) a v := by
  by_cases e : a = d
  · subst e
    rcases r with r | ⟨o, r⟩
    · rw [h] at r; cases r; exact .inr ⟨od, upd_same⟩
    · rw [h] at r; cases r; cases hu
  · rcases r with r | ⟨o, r⟩
    · exact .inl (by rw [upd_ne e]; exact r)
    · exact .inr ⟨o, by rw [upd_ne e]; exact r⟩
/-- what a tree's nodes may be: read so in F' when so in F -/
structure Reads' (K : PySem.W.Frag) (F F' : Hp) : Prop where
  lst : ∀ a vs, F a = some (.lst vs) → F' a = some (.lst vs)
  tup : ∀ a vs, F a = some (.tup vs) → F' a = some (.tup vs)
  dK : ∀ a vs, Rd F a (.dK vs) → Rd F' a (.dK vs)
  dT : ∀ a vs, Rd F a (.dT vs) → Rd F' a (.dT vs)
  ins : ∀ a C dx vs, F a = some (.ins C dx vs) → F' a = some (.ins C dx vs)
  rd : ∀ a vs, SqL K F a vs → SqL K F' a vs
mutual
theorem Rep.reads {K : PySem.W.Frag} {F F' : Hp} (s : Reads' K F F') : ∀ {t : T} {v : V}, Rep K F v t → Rep K F' v t
  | .av x, v, h => by simpa only [Rep] using h
  | .lst ts, v, h => by
    simp only [Rep] at h ⊢
    obtain ⟨a, vs, e, q, r⟩ := h
    exact ⟨a, vs, e, s.lst _ _ q, RepL.reads s r⟩
  | .tup ts, v, h => by
    simp only [Rep] at h ⊢
    obtain ⟨a, vs, e, q, r⟩ := h
    exact ⟨a, vs, e, s.tup _ _ q, RepL.reads s r⟩
  | .dct ks ts, v, h => by
    simp only [Rep] at h ⊢
    obtain ⟨a, vs, e, q, l, r⟩ := h
    exact ⟨a, vs, e, s.dK _ _ q, l, RepL.reads s r⟩
  | .dtt ks ts, v, h => by
    simp only [Rep] at h ⊢
    obtain ⟨a, vs, e, q, l, r⟩ := h
    exact ⟨a, vs, e, s.dT _ _ q, l, RepL.reads s r⟩
  | .obj C ns ts, v, h => by
    simp only [Rep] at h ⊢
    obtain ⟨a, dx, vs, e, q, l, r⟩ := h
    exact ⟨a, dx, vs, e, s.ins _ _ _ _ q, l, RepL.reads s r⟩
  | .rd ts, v, h => by
    simp only [Rep] at h ⊢
    obtain ⟨a, vs, e, q, r⟩ := h
    exact ⟨a, vs, e, s.rd _ _ q, RepL.reads s r⟩
theorem RepL.reads {K : PySem.W.Frag} {F F' : Hp} (s : Reads' K F F') : ∀ {ts : List T} {vs : List V}, RepL K F vs ts → RepL K F' vs ts
  | [], vs, h => by simpa only [RepL] using h
  | t :: ts, vs, h => by
    simp only [RepL] at h ⊢
    obtain ⟨v, r, e, q, p⟩ := h
    exact ⟨v, r, e, Rep.reads s q, RepL.reads s p⟩
end
theorem reads_lock {K : PySem.W.Frag} {F : Hp} {d : Addr} {od : Obj} {u : HO} (h : F d = some u) (hu : isDict u = true) : Reads' K F (upd F d (.frz od u)) where
  lst := fun a vs q => by rw [upd_ne (fun e => by rw [e, h] at q; cases q; cases hu)]; exact q
  tup := fun a vs q => by rw [upd_ne (fun e => by rw [e, h] at q; cases q; cases hu)]; exact q
  dK := fun a vs q => lock_rd h hu q
  dT := fun a vs q => lock_rd h hu q
  ins := fun a C dx vs q => by rw [upd_ne (fun e => by rw [e, h] at q; cases q; cases hu)]; exact q
  rd := fun a vs q => q.elim (fun q => .inl (lock_rd h hu q)) .inr
theorem reads_unlock {K : PySem.W.Frag} {F : Hp} {d : Addr} {od : Obj} {u : HO} (h : F d = some (.frz od u)) : Reads' K F (upd F d u) where
  lst := fun a vs q => by rw [upd_ne (fun e => by rw [e, h] at q; cases q)]; exact q
  tup := fun a vs q => by rw [upd_ne (fun e => by rw [e, h] at q; cases q)]; exact q
  dK := fun a vs q => by
    by_cases e : a = d
    · subst e
      rcases q with q | ⟨o, q⟩
      · rw [h] at q; cases q
      · rw [h] at q; cases q; exact .inl upd_same
    · rcases q with q | ⟨o, q⟩
      · exact .inl (by rw [upd_ne e]; exact q)
      · exact .inr ⟨o, by rw [upd_ne e]; exact q⟩
  dT := fun a vs q => by
    by_cases e : a = d
    · subst e
      rcases q with q | ⟨o, q⟩
      · rw [h] at q; cases q
      · rw [h] at q; cases q; exact .inl upd_same
    · rcases q with q | ⟨o, q⟩
      · exact .inl (by rw [upd_ne e]; exact q)
      · exact .inr ⟨o, by rw [upd_ne e]; exact q⟩
  ins := fun a C dx vs q => by rw [upd_ne (fun e => by rw [e, h] at q; cases q)]; exact q
  rd := fun a vs q => by
    rcases q with q | q
    · refine .inl ?_
      by_cases e : a = d
      · subst e
        rcases q with q | ⟨o, q⟩
        · rw [h] at q; cases q
        · rw [h] at q; cases q; exact .inl upd_same
      · rcases q with q | ⟨o, q⟩
        · exact .inl (by rw [upd_ne e]; exact q)
        · exact .inr ⟨o, by rw [upd_ne e]; exact q⟩
    · exact .inr q
theorem Res.reads {K : PySem.W.Frag} {F H F' H' : Hp} {r : R} {v : V} {A : List Addr} (h : Res K F H r v A) (s : Reads' K F F') (k : ∀ a ∈ A, H' a = H a) : Res K F' H' r v A := by
  obtain ⟨b, t⟩ := r
  cases b with
  | true => rw [Res.tt] at h ⊢; exact Own.keep h k
  | false => rw [Res.ff] at h ⊢; exact ⟨h.1, h.2.reads s⟩
section
variable {K : PySem.W.Frag} {σ : St} {H F : Hp} {A : Addr → Prop} {env : Env} {d : Addr} {od : Obj} {u : HO}
theorem SR.turn {F' H' : Hp} (S : SR K σ H F A env) (s : Reads' K F F') (hf : Same F' H') (k : ∀ a, a ≠ d → H' a = H a) (kf : ∀ a, a ≠ d → F' a = F a) (hd : H' d ≠ none) (nd : F d ≠ none) : SR K σ H' F' A env := by
  obtain ⟨fh, ah, le, As, h1, h2, h3, h4⟩ := S
  have ne : ∀ i, ∀ a ∈ As i, a ≠ d := fun i a ha e => by
    have := (h4 i a ha).2
    rw [e] at this
    exact nd this
  refine ⟨hf, fun a ha => ?_, le, As, fun i r e => ?_, h2, h3, fun i a ha => ⟨(h4 i a ha).1, by rw [kf a (ne i a ha)]; exact (h4 i a ha).2⟩⟩
  · by_cases e : a = d
    · rw [e]; exact hd
    · rw [k a e]; exact ah a ha
  · obtain ⟨v, e1, q⟩ := h1 i r e
    exact ⟨v, e1, q.reads s fun a ha => k a (ne i a ha)⟩
theorem same_upd {F H : Hp} {o : HO} (s : Same F H) : Same (upd F d o) (upd H d o) := fun b v q => by
  by_cases e : b = d
  · subst e; rw [upd_same] at q ⊢; exact q
  · rw [upd_ne e] at q ⊢; exact s b v q
theorem SR.lock (S : SR K σ H F A env) (h : F d = some u) (hu : isDict u = true) : SR K σ (upd H d (.frz od u)) (upd F d (.frz od u)) A env :=
  S.turn (d := d) (reads_lock h hu) (same_upd S.fh) (fun a e => upd_ne e) (fun a e => upd_ne e) (by rw [upd_same]; simp) (by rw [h]; simp)
theorem SR.unlock (S : SR K σ H F A env) (h : F d = some (.frz od u)) : SR K σ (upd H d u) (upd F d u) A env :=
  S.turn (d := d) (reads_unlock h) (same_upd S.fh) (fun a e => upd_ne e) (fun a e => upd_ne e) (by rw [upd_same]; simp) (by rw [h]; simp)
theorem Step.unlock {H1 F1 H2 F2 : Hp} {A1 A2 : Addr → Prop} (st : Step (upd H1 d (.frz od u)) (upd F1 d (.frz od u)) A1 H2 F2 A2) (h : F1 d = some u) (s : Same F1 H1) : Step H1 F1 A1 (upd H2 d u) (upd F2 d u) A2 where
  ff := fun b o q => by
    by_cases e : b = d
    · subst e; rw [upd_same]; rw [h] at q; exact q
    · rw [upd_ne e]; exact st.ff b o (by rw [upd_ne e]; exact q)
  hh := fun b o q n => by
    by_cases e : b = d
    · subst e; rw [upd_same]; rw [s _ _ h] at q; exact q
    · rw [upd_ne e]; exact st.hh b o (by rw [upd_ne e]; exact q) n
  dom := fun b q => by
    by_cases e : b = d
    · rw [e, upd_same]; simp
    · rw [upd_ne e]; exact st.dom b (by rw [upd_ne e]; exact q)
  an := fun b q => by
    rcases st.an b q with z | z
    · exact .inl z
    · by_cases e : b = d
      · rw [e, upd_same] at z; cases z
      · rw [upd_ne e] at z; exact .inr z
  fn := fun b o q => by
    by_cases e : b = d
    · subst e; rw [upd_same] at q; rw [h]; exact .inl q
    · rw [upd_ne e] at q
      rcases st.fn b o q with z | z | z
      · rw [upd_ne e] at z; exact .inl z
      · rw [upd_ne e] at z; exact .inr (.inl z)
      · exact .inr (.inr z)
end

/-! ### what is walked -/
/-- the items, tree by tree -/
def ItOk (K : PySem.W.Frag) (F : Hp) (J : It) (ts : List T) : Prop := ∀ (H F2 : Hp), Same F F2 → Same F2 H → (∀ i, ts.length ≤ i → J.stop i H) ∧
  ∀ i t, ts[i]? = some t → J.go i H ∧ ∀ x H', J.yld i H x H' → ∃ fl, New K F2 H (fl, t) x H'
/-- the lock that a walk laid, if any -/
def LockR (X : Cx) (L : Option (Addr × Obj × HO)) (H1 F1 H2 F2 : Hp) : Prop := match L with
  | none => H2 = H1 ∧ F2 = F1
  | some (d, od, u) => F1 d = some u ∧ isDict u = true ∧ (∀ o' u', X.H_0 d ≠ some (.frz o' u')) ∧ H2 = upd H1 d (.frz od u) ∧ F2 = upd F1 d (.frz od u)
def OutI (X : Cx) (σ : St) (H F : Hp) (A : Addr → Prop) (ts : List T) (env : Env) (J : It) (H' : Hp) : Prop :=
  ∃ F1 H1 F2 A1 L, SR X.K σ H1 F1 A1 env ∧ Step H F A H1 F1 A1 ∧ LockR X L H1 F1 H' F2 ∧ ItOk X.K F2 J ts
abbrev QIK := List T → Env → Prop
abbrev TQI := Env → QIK → Prop
def liftI (X : Cx) (τ : TQI) : TI := fun σ H Rk => ∃ (F : Hp) (A : Addr → Prop) (env : Env) (Q : QIK), SR X.K σ H F A env ∧ τ env Q ∧ ∀ ts env' J H', Q ts env' → OutI X σ H F A ts env' J H' → Rk J H'
def QI (X : Cx) (tg iter : Expr) (τ : TQI) : Prop := PI X tg iter (liftI X τ)
theorem weakI {X : Cx} {tg iter : Expr} {w w' : TI} (h : PI X tg iter w) (k : ∀ σ H Rk, w' σ H Rk → w σ H Rk) : PI X tg iter w' := ⟨fun pins s σ H Rk I q => h.run pins s σ H Rk I (k σ H Rk q)⟩
/-- locked behind its evaluation -/
theorem pe_lk {X : Cx} {e : Expr} {t : TE} (h : PE X e t) : PE X e (fun σ H Q => t σ H fun v H1 => (∃ d u, v = .ref d ∧ H1 d = some u ∧ Mut (some u) ∧ ∀ od, (∀ o' u', X.H_0 d ≠ some (.frz o' u')) → Q v (upd H1 d (.frz od u))) ∨ Q v H1) := by
  refine ⟨fun pins s σ H Q I hw => ?_⟩
  refine thn (h.run pins s σ H _ I hw) fun v s1 ⟨x, H1, I1, r, q⟩ => ?_
  rcases q with ⟨d, u, e, hd, mu, q⟩ | q
  · obtain ⟨od, I2⟩ := I1.lock hd mu
    exact ⟨x, _, I2, r, q od (I1.nofrz hd mu)⟩
  · exact ⟨x, H1, I1, r, q⟩
/-- unlocked behind a statement, an expression -/
def UL (X : Cx) (d : Addr) (P : Hp → Prop) (H' : Hp) : Prop := ∃ od u, H' d = some (.frz od u) ∧ (∀ o' u', X.H_0 d ≠ some (.frz o' u')) ∧ P (upd H' d u)
def UO (X : Cx) (P : Hp → Prop) (H' : Hp) : Prop := P H' ∨ ∃ d, UL X d P H'
theorem uo_get {X : Cx} {pins : List (Addr × Obj)} {σ : St} {H : Hp} {s : Shared} {P : Hp → Prop} (I : Inv X pins σ H s) (h : UO X P H) : ∃ H', Inv X pins σ H' s ∧ P H' := by
  rcases h with h | ⟨d, od, u, e, hn, h⟩
  · exact ⟨H, I, h⟩
  · exact ⟨_, I.unlock e hn, h⟩
theorem ps_unlk {X : Cx} {st : Stmt} {t : TS} (h : PS X st t) : PS X st (fun D σ H => t ⟨fun σ' H' => UO X (D.nx σ') H', fun v H' => UO X (D.rt v) H', fun σ' H' => UO X (D.bk σ') H', fun σ' H' => UO X (D.ct σ') H'⟩ σ H) := by
  refine ⟨fun pins s σ H D I hw => ?_⟩
  refine thn (h.run pins s σ _ _ I hw) fun f s1 q => ?_
  cases f with
  | next => obtain ⟨σ', H', I2, q⟩ := q; obtain ⟨H2, I3, q⟩ := uo_get I2 q; exact ⟨σ', H2, I3, q⟩
  | brk => obtain ⟨σ', H', I2, q⟩ := q; obtain ⟨H2, I3, q⟩ := uo_get I2 q; exact ⟨σ', H2, I3, q⟩
  | cont => obtain ⟨σ', H', I2, q⟩ := q; obtain ⟨H2, I3, q⟩ := uo_get I2 q; exact ⟨σ', H2, I3, q⟩
  | ret v => obtain ⟨x, σ', H', I2, r, q⟩ := q; obtain ⟨H2, I3, q⟩ := uo_get I2 q; exact ⟨x, σ', H2, I3, r, q⟩
theorem pe_unlk {X : Cx} {e : Expr} {t : TE} (h : PE X e t) : PE X e (fun σ H Q => t σ H fun v H' => UO X (Q v) H') := by
  refine ⟨fun pins s σ H Q I hw => ?_⟩
  refine thn (h.run pins s σ _ _ I hw) fun v s1 ⟨x, H1, I1, r, q⟩ => ?_
  obtain ⟨H2, I3, q⟩ := uo_get I1 q
  exact ⟨x, H2, I3, r, q⟩
/-- the state behind the walk, unlocked -/
theorem LockR.back {X : Cx} {L : Option (Addr × Obj × HO)} {H1 F1 H2 F2 H3 F3 : Hp} {A1 A3 : Addr → Prop} {σ : St} {env : Env} {P : Hp → Prop} (l : LockR X L H1 F1 H2 F2) (S : SR X.K σ H3 F3 A3 env) (st : Step H2 F2 A1 H3 F3 A3) (s : Same F1 H1)
    (k : ∀ H4 F4, SR X.K σ H4 F4 A3 env → Step H1 F1 A1 H4 F4 A3 → P H4) : UO X P H3 := by
  match L, l with
  | none, l => obtain ⟨rfl, rfl⟩ := l; exact .inl (k _ _ S st)
  | some (d, od, u), l =>
    obtain ⟨h, hu, hn, rfl, rfl⟩ := l
    have e : F3 d = some (.frz od u) := st.ff d _ upd_same
    exact .inr ⟨d, od, u, S.fh _ _ e, hn, k _ _ (S.unlock e) (st.unlock h s)⟩
/-- .. with a value too -/
theorem LockR.backR {X : Cx} {L : Option (Addr × Obj × HO)} {H1 F1 H2 F2 H3 F3 : Hp} {A1 A3 : Addr → Prop} {σ : St} {env : Env} {P : Hp → Prop} {r : R} {v : V} {Ar : List Addr} (l : LockR X L H1 F1 H2 F2) (S : SR X.K σ H3 F3 A3 env) (st : Step H2 F2 A1 H3 F3 A3) (s : Same F1 H1)
    (re : Res X.K F3 H3 r v Ar) (nd : Ar.Nodup) (fr : ∀ a ∈ Ar, (H2 a = none ∨ A1 a) ∧ ¬ A3 a ∧ F3 a = none)
    (k : ∀ H4 F4, SR X.K σ H4 F4 A3 env → Step H1 F1 A1 H4 F4 A3 → Res X.K F4 H4 r v Ar → (∀ a ∈ Ar, (H1 a = none ∨ A1 a) ∧ ¬ A3 a ∧ F4 a = none) → P H4) : UO X P H3 := by
  match L, l with
  | none, l => obtain ⟨rfl, rfl⟩ := l; exact .inl (k _ _ S st re fr)
  | some (d, od, u), l =>
    obtain ⟨h, hu, hn, rfl, rfl⟩ := l
    have e : F3 d = some (.frz od u) := st.ff d _ upd_same
    have ne : ∀ a ∈ Ar, a ≠ d := fun a ha z => by
      have := (fr a ha).2.2
      rw [z, e] at this
      cases this
    exact .inr ⟨d, od, u, S.fh _ _ e, hn, k _ _ (S.unlock e) (st.unlock h s) (re.reads (reads_unlock e) fun a ha => upd_ne (ne a ha)) fun a ha => ⟨by have := (fr a ha).1; rw [upd_ne (ne a ha)] at this; exact this, (fr a ha).2.1, by rw [upd_ne (ne a ha)]; exact (fr a ha).2.2⟩⟩
theorem LockR.same {X : Cx} {L : Option (Addr × Obj × HO)} {H1 F1 H2 F2 : Hp} {A1 : Addr → Prop} {σ : St} {env : Env} (l : LockR X L H1 F1 H2 F2) (S : SR X.K σ H1 F1 A1 env) : SR X.K σ H2 F2 A1 env := by
  match L, l with
  | none, l => obtain ⟨rfl, rfl⟩ := l; exact S
  | some (d, od, u), l => obtain ⟨h, hu, hn, rfl, rfl⟩ := l; exact S.lock h hu

/-! ### for -/
def forT (γ : TGQ) (tb : TSQ) : List T → Env → DQ → Prop
  | [], env, D => D.nx env
  | t :: ts, env, D => γ t env fun e1 => tb ⟨fun e2 => forT γ tb ts e2 D, D.rt, D.nx, fun e2 => forT γ tb ts e2 D⟩ e1
def sqFor (τ : TQI) (γ : TGQ) (tb : TSQ) : TSQ := fun D env => τ env fun ts e1 => forT γ tb ts e1 D
section
variable {X : Cx} {pn : List Nat} {pos : Pos}
theorem qs_for {tg iter : Expr} {body : List Stmt} {ws : List Nat} {τ : TQI} {γ : TGQ} {tb : TSQ} (hp : PassesOwn (model X.prog X.w) X.A X.env X.xe) (hc : X.calm = true) (hi : QI X tg iter τ) (hg : QG X tg ws γ) (hb : QSs X pn body tb)
    (hs : ∀ x, foldedSetIterable iter X.env x = pure x := by intro _; rfl) (hpn : ∀ i ∈ pn, i ∉ ws := by simp) : QS X pn (.For tg iter body [] pos) (sqFor τ γ tb) := by
  refine weakS (ps_unlk (ps_for hp hc hi hg hb hs)) fun D σ H ⟨F, A, env, E, S, h, ad⟩ => ?_
  refine ⟨F, A, env, _, S, h, fun ts e1 J H' q O => ?_⟩
  obtain ⟨F1, H1, F2, A1, L, S1, st1, l, it⟩ := O
  have S2 := l.same S1
  refine ⟨fun i m σ' H' => m + i = ts.length ∧ ∃ F' A' e', SR X.K σ' H' F' A' e' ∧ Step H' F2 A1 H' F2 A1 ∧ Step _ F2 A1 H' F' A' ∧ Pin pn σ σ' ∧ forT γ tb (ts.drop i) e' E, ⟨ts.length, rfl, F2, A1, e1, S2, .refl, .refl, .refl, q⟩, ?_⟩
  rintro i m σ' H'' ⟨hm, F', A', e', S', _, st', p', q'⟩
  obtain ⟨stop, go⟩ := it H'' F' st'.ff S'.fh
  by_cases hl : i < ts.length
  · obtain ⟨g, y⟩ := go i ts[i] (List.getElem?_eq_getElem hl)
    rw [List.drop_eq_getElem_cons hl] at q'
    refine .inr ⟨g, fun σ3 H3 => ∃ F3 A3 e3, SR X.K σ3 H3 F3 A3 e3 ∧ Step H' F2 A1 H3 F3 A3 ∧ Pin pn σ σ3 ∧ forT γ tb (ts.drop (i + 1)) e3 E, fun σ3 H3 ⟨F3, A3, e3, S3, st3, p3, q3⟩ => ⟨m - 1, by omega, by omega, F3, A3, e3, S3, .refl, st3, p3, q3⟩, fun x H3 yx => ?_⟩
    obtain ⟨fl, n⟩ := y x H3 yx
    obtain ⟨F3, A3, S3, st3, re⟩ := (Out.new S' n).sh
    refine ⟨F3, A3, e', ts[i], _, S3, re, q', fun e4 σ4 q4 S4 p4 => ?_⟩
    have P4 : Pin pn σ' σ4 := ⟨p4.1, fun i hi => p4.2 i (hpn i hi)⟩
    have st4 := st'.trans st3
    refine ⟨F3, A3, e4, _, S4, q4, ⟨fun e5 σ5 H5 q5 ⟨F5, A5, S5, st5, p5⟩ => ⟨F5, A5, e5, S5, st4.trans st5, (p'.trans P4).trans p5, q5⟩, fun r e5 v H5 q5 O5 => ?_, fun e5 σ5 H5 q5 ⟨F5, A5, S5, st5, p5⟩ => ?_, fun e5 σ5 H5 q5 ⟨F5, A5, S5, st5, p5⟩ => ⟨F5, A5, e5, S5, st4.trans st5, (p'.trans P4).trans p5, q5⟩⟩⟩
    · obtain ⟨σ5, F5, A5, Ar, S5, st5, p5, re5, nd5, fr5⟩ := O5
      have st6 := st4.trans st5
      exact l.backR S5 st6 S1.fh re5 nd5 (fun a ha => ⟨st4.src (fr5 a ha).1, (fr5 a ha).2⟩) fun H6 F6 S6 st7 re6 fr6 => ad.rt _ _ _ _ q5 (OutRt.after st1 .refl ⟨σ5, F6, A5, Ar, S6, st7, (p'.trans P4).trans p5, re6, nd5, fr6⟩)
    · exact l.back S5 (st4.trans st5) S1.fh fun H6 F6 S6 st6 => ad.nx _ _ _ q5 ⟨F6, A5, S6, st1.trans st6, (p'.trans P4).trans p5⟩
  · rw [List.drop_eq_nil_of_le (by omega)] at q'
    exact .inl ⟨stop i (by omega), l.back S' st' S1.fh fun H4 F4 S4 st4 => ad.nx _ _ _ q' ⟨F4, A', S4, st1.trans st4, p'⟩⟩
/-- while: a word over the measure and the slots -/
def sqWhile (c : TQB) (tb : TSQ) : TSQ := fun D env => ∃ W : Nat → Env → Prop, (∃ m, W m env) ∧ ∀ m e, W m e → c e fun b e1 => if b = true then tb ⟨fun e2 => ∃ m', m' < m ∧ W m' e2, D.rt, D.nx, fun e2 => ∃ m', m' < m ∧ W m' e2⟩ e1 else D.nx e1
theorem qs_while {c : Expr} {body : List Stmt} {tc : TQB} {tb : TSQ} (hp : PassesOwn (model X.prog X.w) X.A X.env X.xe) (hc : QT X c tc) (hb : QSs X pn body tb) : QS X pn (.While c body [] pos) (sqWhile tc tb) := by
  refine weakS (ps_while hp hc hb) fun D σ H ⟨F, A, env, E, S, h, ad⟩ => ?_
  obtain ⟨W, ⟨m0, w0⟩, turn⟩ := h
  refine ⟨fun m σ' H' => ∃ F' A' e', SR X.K σ' H' F' A' e' ∧ Step H F A H' F' A' ∧ Pin pn σ σ' ∧ W m e', ⟨m0, F, A, env, S, .refl, .refl, w0⟩, ?_⟩
  rintro m σ' H' ⟨F', A', e', S', st', p', w'⟩
  refine liftT_go S' (turn m e' w') fun b e1 H1 F1 A1 q S1 st1 => ?_
  cases b with
  | false => exact ad.nx _ _ _ q ⟨F1, A1, S1, st'.trans st1, p'⟩
  | true =>
    rw [if_pos rfl] at q
    rw [if_pos rfl]
    have st2 := st'.trans st1
    refine ⟨fun σ3 H3 => ∃ m', m' < m ∧ ∃ F3 A3 e3, SR X.K σ3 H3 F3 A3 e3 ∧ Step H F A H3 F3 A3 ∧ Pin pn σ σ3 ∧ W m' e3, fun σ3 H3 ⟨m', hm, z⟩ => ⟨m', hm, z⟩, F1, A1, e1, _, S1, q, ?_⟩
    exact ⟨fun e3 σ3 H3 ⟨m', hm, w3⟩ ⟨F3, A3, S3, st3, p3⟩ => ⟨m', hm, F3, A3, e3, S3, st2.trans st3, p'.trans p3, w3⟩, fun r e3 v H3 q3 O => ad.rt _ _ _ _ q3 (O.after st2 p'), fun e3 σ3 H3 q3 O => ad.nx _ _ _ q3 (O.after st2 p'), fun e3 σ3 H3 ⟨m', hm, w3⟩ ⟨F3, A3, S3, st3, p3⟩ => ⟨m', hm, F3, A3, e3, S3, st2.trans st3, p'.trans p3, w3⟩⟩
end
end Q
end

section
set_option maxRecDepth 100000
/-! Q6: what is walked; comprehensions. -/
namespace Q
open PySem L2

theorem sq_inj {K : PySem.W.Frag} {H : Hp} {a : Addr} {vs : List V} (h : H a = some (.lst vs)) : ∀ ys, Rd H a (.lst ys) → ys = vs := fun ys q => by
  rcases q with q | ⟨o, q⟩
  · rw [h] at q; cases q; rfl
  · rw [h] at q; cases q
section
variable {X : Cx} {tg e e2 : Expr} {τ τ2 : TQ} {τs : TQL} {pos p : Pos}
theorem lift_args_sh {K : PySem.W.Frag} {σ : St} {H F : Hp} {A : Addr → Prop} {env : Env} {Rk : List V → Hp → Prop} {Q1 : QLK} {ts : List Arg → Option (List T)} (S : SR K σ H F A env) (h : τs env Q1)
    (k : ∀ rs env1 vs H1, Q1 rs env1 → OutL K σ H F A rs env1 vs H1 → Rk vs H1) : liftL K τs σ H Rk := ⟨F, A, env, Q1, S, h, k⟩

/-! ### ranges -/
def intsT (lo : Int) (n : Nat) : List T := (List.range n).map fun (i : Nat) => T.int (lo + (i : Int))
theorem it_range {K : PySem.W.Frag} {F : Hp} {lo : Int} {n : Nat} : ItOk K F (Itr lo n) (intsT lo n) := by
  intro H F2 s1 s2
  have hl : (intsT lo n).length = n := by simp [intsT]
  refine ⟨fun i hi => by rw [hl] at hi; exact hi, fun i t ht => ?_⟩
  have hi : i < n := by have := (List.getElem?_eq_some_iff.mp ht).1; rw [hl] at this; exact this
  refine ⟨hi, fun x H' y => ?_⟩
  obtain ⟨rfl, rfl⟩ := y
  have e : t = T.int (lo + (i : Int)) := by
    simp only [intsT, List.getElem?_map, List.getElem?_range hi, Option.map_some, Option.some.injEq] at ht
    exact ht.symm
  subst e
  exact ⟨true, .av s2⟩
def tiR1 (τs : TQL) : TQI := fun env Q => τs env fun rs e => ∃ j, vals rs = some [.int j] ∧ -(2 ^ 62) ≤ j ∧ j < 2 ^ 62 ∧ Q (intsT 0 j.toNat) e
theorem qi_range1 (hg : Gl X "range") (hm : X.mg "range" = none) (ha : QA X [e] τs) (hs : starEach [e] X.env = [(false, eval e X.env)] := by rfl) : QI X tg (.Call (.Name "range" p) [e] [] pos) (tiR1 τs) := by
  refine weakI (pi_range1 hg hm ha hs) fun σ H Rk ⟨F, A, env, Q, S, h, k⟩ => ?_
  refine lift_args S h fun rs e1 vs H1 q O => ?_
  obtain ⟨j, ev, h1, h2, q⟩ := q
  obtain ⟨F1, A1, S1, st1, re⟩ := O.sh ev
  simp only [RepL] at re
  obtain ⟨v, us, rfl, rv, rfl⟩ := re
  exact ⟨j, by rw [Rep.av_eq rv], h1, h2, k _ _ _ _ q ⟨F1, H1, F1, A1, none, S1, st1, ⟨rfl, rfl⟩, it_range⟩⟩
def tiR2 (τs : TQL) : TQI := fun env Q => τs env fun rs e => ∃ i j, vals rs = some [.int i, .int j] ∧ (-(2 ^ 62) ≤ i ∧ i < 2 ^ 62 ∧ -(2 ^ 62) ≤ j ∧ j < 2 ^ 62) ∧ Q (intsT i (j - i).toNat) e
theorem qi_range2 (hg : Gl X "range") (hm : X.mg "range" = none) (ha : QA X [e, e2] τs) (hs : starEach [e, e2] X.env = [(false, eval e X.env), (false, eval e2 X.env)] := by rfl) (hs2 : starEach [e2] X.env = [(false, eval e2 X.env)] := by rfl) : QI X tg (.Call (.Name "range" p) [e, e2] [] pos) (tiR2 τs) := by
  refine weakI (pi_range2 hg hm ha hs hs2) fun σ H Rk ⟨F, A, env, Q, S, h, k⟩ => ?_
  refine lift_args S h fun rs e1 vs H1 q O => ?_
  obtain ⟨i, j, ev, hb, q⟩ := q
  obtain ⟨F1, A1, S1, st1, re⟩ := O.sh ev
  simp only [RepL] at re
  obtain ⟨v, us, rfl, rv, v2, us2, rfl, rv2, rfl⟩ := re
  exact ⟨i, j, by rw [Rep.av_eq rv, Rep.av_eq rv2], hb, k _ _ _ _ q ⟨F1, H1, F1, A1, none, S1, st1, ⟨rfl, rfl⟩, it_range⟩⟩

/-! ### lists, tuples, texts -/
theorem it_list {K : PySem.W.Frag} {F : Hp} {a : Addr} {vs : List V} {ts : List T} (h : F a = some (.lst vs)) (r : RepL K F vs ts) : ItOk K F (Itl K a) ts := by
  intro H F2 s1 s2
  have hH := s2 _ _ (s1 _ _ h)
  refine ⟨fun i hi => ⟨vs, .of hH, by rw [r.length]; exact hi⟩, fun i t ht => ?_⟩
  obtain ⟨v, ev, rv⟩ := r.get ht
  refine ⟨⟨vs, v, .of hH, ev⟩, fun x H' y => ?_⟩
  obtain ⟨rfl, y⟩ := y
  have := y vs (.of hH)
  rw [ev] at this
  cases this
  exact ⟨false, .old s2 (rv.mono s1)⟩
def tiL (τ : TQ) : TQI := fun env Q => τ env fun r e => ∃ ts, r.2 = .lst ts ∧ Q ts e
theorem qi_list (he : QE X e τ) : QI X tg e (tiL τ) := by
  refine weakI (pi_list he) fun σ H Rk ⟨F, A, env, Q, S, h, k⟩ => ?_
  refine lift_sh S h fun r e1 v H1 F1 A1 q S1 st1 re => ?_
  obtain ⟨ts, er, q⟩ := q
  rw [er] at re
  simp only [Rep] at re
  obtain ⟨a, vs, rfl, ha, rl⟩ := re
  exact ⟨a, rfl, ⟨vs, .of (S1.fh _ _ ha)⟩, k _ _ _ _ q ⟨F1, H1, F1, A1, none, S1, st1, ⟨rfl, rfl⟩, it_list ha rl⟩⟩
theorem it_tup {K : PySem.W.Frag} {F : Hp} {a : Addr} {vs : List V} {ts : List T} (h : F a = some (.tup vs)) (r : RepL K F vs ts) : ItOk K F (Itt K a) ts := by
  intro H F2 s1 s2
  have hH := s2 _ _ (s1 _ _ h)
  refine ⟨fun i hi => ⟨vs, .of hH, by rw [r.length]; exact hi⟩, fun i t ht => ?_⟩
  obtain ⟨v, ev, rv⟩ := r.get ht
  refine ⟨⟨vs, v, .of hH, ev⟩, fun x H' y => ?_⟩
  obtain ⟨rfl, y⟩ := y
  have := y vs (.of hH)
  rw [ev] at this
  cases this
  exact ⟨false, .old s2 (rv.mono s1)⟩
def tiT (τ : TQ) : TQI := fun env Q => τ env fun r e => ∃ ts, r.2 = .tup ts ∧ Q ts e
theorem qi_tup (he : QE X e τ) : QI X tg e (tiT τ) := by
  refine weakI (pi_tup he) fun σ H Rk ⟨F, A, env, Q, S, h, k⟩ => ?_
  refine lift_sh S h fun r e1 v H1 F1 A1 q S1 st1 re => ?_
  obtain ⟨ts, er, q⟩ := q
  rw [er] at re
  simp only [Rep] at re
  obtain ⟨a, vs, rfl, ha, rl⟩ := re
  exact ⟨a, rfl, ⟨vs, .of (S1.fh _ _ ha)⟩, k _ _ _ _ q ⟨F1, H1, F1, A1, none, S1, st1, ⟨rfl, rfl⟩, it_tup ha rl⟩⟩
def signsT (x : Str) : List T := x.cps.toList.map fun c => T.str ⟨#[c]⟩
theorem it_str {K : PySem.W.Frag} {F : Hp} {x : Str} : ItOk K F (Its x) (signsT x) := by
  intro H F2 s1 s2
  have hl : (signsT x).length = x.cps.size := by simp [signsT]
  refine ⟨fun i hi => by rw [hl] at hi; exact hi, fun i t ht => ?_⟩
  have hi : i < x.cps.size := by have := (List.getElem?_eq_some_iff.mp ht).1; rw [hl] at this; exact this
  refine ⟨hi, fun v H' y => ?_⟩
  obtain ⟨rfl, c, ec, rfl⟩ := y
  have e : t = T.str ⟨#[c]⟩ := by
    simp only [signsT, List.getElem?_map, Array.getElem?_toList, ec, Option.map_some, Option.some.injEq] at ht
    exact ht.symm
  subst e
  exact ⟨true, .av s2⟩
def tiS (τ : TQ) : TQI := fun env Q => τ env fun r e => ∃ x, r.2 = .str x ∧ Q (signsT x) e
theorem qi_str (he : QE X e τ) : QI X tg e (tiS τ) := by
  refine weakI (pi_str he) fun σ H Rk ⟨F, A, env, Q, S, h, k⟩ => ?_
  refine lift_sh S h fun r e1 v H1 F1 A1 q S1 st1 re => ?_
  obtain ⟨x, er, q⟩ := q
  rw [er] at re
  exact ⟨x, Rep.av_eq re, k _ _ _ _ q ⟨F1, H1, F1, A1, none, S1, st1, ⟨rfl, rfl⟩, it_str⟩⟩

/-! ### zip, enumerate -/
def zipT : List T → List T → List T
  | t :: ts, u :: us => .tup [t, u] :: zipT ts us
  | _, _ => []
theorem zipT_length : ∀ ts us : List T, (zipT ts us).length = min ts.length us.length
  | [], _ => by simp [zipT]
  | _ :: _, [] => by simp [zipT]
  | t :: ts, u :: us => by simp only [zipT, List.length_cons, zipT_length ts us]; omega
theorem zipT_get : ∀ {ts us : List T} {i : Nat} {w : T}, (zipT ts us)[i]? = some w → ∃ t u, ts[i]? = some t ∧ us[i]? = some u ∧ w = .tup [t, u]
  | [], _, i, w, h => by simp [zipT] at h
  | _ :: _, [], i, w, h => by simp [zipT] at h
  | t :: ts, u :: us, 0, w, h => by simp only [zipT, List.getElem?_cons_zero, Option.some.injEq] at h; exact ⟨t, u, by simp, by simp, h.symm⟩
  | t :: ts, u :: us, i + 1, w, h => by
    simp only [zipT, List.getElem?_cons_succ] at h
    obtain ⟨a, b, h1, h2, h3⟩ := zipT_get h
    exact ⟨a, b, by simpa using h1, by simpa using h2, h3⟩
theorem it_zip {K : PySem.W.Frag} {F : Hp} {a b : Addr} {vs ws : List V} {ts us : List T} (h : F a = some (.lst vs)) (r : RepL K F vs ts) (h2 : F b = some (.lst ws)) (r2 : RepL K F ws us) : ItOk K F (Itz K a b) (zipT ts us) := by
  intro H F2 s1 s2
  have hH := s2 _ _ (s1 _ _ h)
  have hH2 := s2 _ _ (s1 _ _ h2)
  refine ⟨fun i hi => ⟨vs, ws, .of hH, .of hH2, ?_⟩, fun i w hw => ?_⟩
  · rw [zipT_length] at hi; rw [r.length, r2.length]; omega
  · obtain ⟨t, u, et, eu, rfl⟩ := zipT_get hw
    obtain ⟨v, ev, rv⟩ := r.get et
    obtain ⟨v2, ev2, rv2⟩ := r2.get eu
    refine ⟨⟨vs, ws, v, v2, .of hH, .of hH2, ev, ev2⟩, fun x H' y => ?_⟩
    obtain ⟨T', x1, x2, rfl, hn, rfl, y1, y2⟩ := y
    have z1 := y1 vs (.of hH)
    have z2 := y2 ws (.of hH2)
    rw [ev] at z1; cases z1
    rw [ev2] at z2; cases z2
    exact ⟨_, New.tup s2 (by simp only [RepL]; exact ⟨v, [v2], rfl, rv.mono s1, v2, [], rfl, rv2.mono s1, rfl⟩) hn⟩
def tiZ (τs : TQL) : TQI := fun env Q => τs env fun rs e => ∃ ts us, vals rs = some [.lst ts, .lst us] ∧ Q (zipT ts us) e
theorem qi_zip {elts : List Expr} {kk : Nat} {tpos : Pos} (hg : Gl X "zip") (hm : X.mg "zip" = none) (ha : QA X [e, e2] τs)
    (hs : starEach [e, e2] X.env = (false, eval e X.env) :: starEach [e2] X.env := by rfl) (hpl : (backTo pos (starEach [e2] X.env)).any (·.1) = false := by rfl) : QI X (.Tuple elts kk tpos) (.Call (.Name "zip" p) [e, e2] [] pos) (tiZ τs) := by
  refine weakI (pi_zip hg hm ha hs hpl) fun σ H Rk ⟨F, A, env, Q, S, h, k⟩ => ?_
  refine lift_args S h fun rs e1 vs H1 q O => ?_
  obtain ⟨ts, us, ev, q⟩ := q
  obtain ⟨F1, A1, S1, st1, re⟩ := O.sh ev
  simp only [RepL, Rep] at re
  obtain ⟨_, _, rfl, ⟨a, ws, rfl, ha1, rl⟩, _, _, rfl, ⟨b, ws2, rfl, hb1, rl2⟩, rfl⟩ := re
  exact ⟨a, b, ws, ws2, rfl, .of (S1.fh _ _ ha1), .of (S1.fh _ _ hb1), k _ _ _ _ q ⟨F1, H1, F1, A1, none, S1, st1, ⟨rfl, rfl⟩, it_zip ha1 rl hb1 rl2⟩⟩

/-! ### dicts -/
/-- evaluated and locked -/
theorem lk_dict {σ : St} {H F : Hp} {A : Addr → Prop} {env : Env} {Q1 : QK} {Rk : VK} (S : SR X.K σ H F A env) (h : τ env Q1)
    (k : ∀ r env1 d H1 F1 A1 H2 F2 L, Q1 r env1 → SR X.K σ H1 F1 A1 env1 → Step H F A H1 F1 A1 → LockR X L H1 F1 H2 F2 → (∃ ks ts, r.2 = .dct ks ts) → (∀ ks ts, r.2 = .dct ks ts → ∃ vs o, H2 d = some (.frz o (.dK (ks.zip vs))) ∧ F2 d = some (.frz o (.dK (ks.zip vs))) ∧ ks.length = vs.length ∧ RepL X.K F2 vs ts) → Rk (.ref d) H2)
    (hd : ∀ r e, Q1 r e → ∃ ks ts, r.2 = .dct ks ts) :
    lift X.K τ σ H (fun v H1 => (∃ d u, v = .ref d ∧ H1 d = some u ∧ Mut (some u) ∧ ∀ od, (∀ o' u', X.H_0 d ≠ some (.frz o' u')) → Rk v (upd H1 d (.frz od u))) ∨ Rk v H1) := by
  refine lift_sh S h fun r e1 v H1 F1 A1 q S1 st1 re => ?_
  obtain ⟨ks, ts, er⟩ := hd r e1 q
  rw [er] at re
  simp only [Rep] at re
  obtain ⟨d, vs, rfl, hr, hl, rl⟩ := re
  rcases hr with hr | ⟨o, hr⟩
  · refine .inl ⟨d, _, rfl, S1.fh _ _ hr, True.intro, fun od hn => ?_⟩
    refine k r e1 d H1 F1 A1 _ _ (some (d, od, _)) q S1 st1 ⟨hr, rfl, hn, rfl, rfl⟩ ⟨ks, ts, er⟩ fun ks' ts' er' => ?_
    rw [er] at er'
    cases er'
    exact ⟨vs, od, upd_same, upd_same, hl, rl.reads (reads_lock hr rfl)⟩
  · refine .inr (k r e1 d H1 F1 A1 _ _ none q S1 st1 ⟨rfl, rfl⟩ ⟨ks, ts, er⟩ fun ks' ts' er' => ?_)
    rw [er] at er'
    cases er'
    exact ⟨vs, o, S1.fh _ _ hr, hr, hl, rl⟩
theorem zip_get {κ : Type} {ks : List κ} {vs : List V} {i : Nat} {k : κ} {v : V} (h : (ks.zip vs)[i]? = some (k, v)) : ks[i]? = some k ∧ vs[i]? = some v := by
  rw [List.getElem?_zip_eq_some] at h
  exact h
def keyT : Key → T := fun k => .av (kV k)
/-- the keys -/
theorem it_keys {K : PySem.W.Frag} {F : Hp} {d : Addr} {o : Obj} {ks : List Key} {vs : List V} (h : F d = some (.frz o (.dK (ks.zip vs)))) (hl : ks.length = vs.length) : ItOk K F (Itk d o (ks.zip vs)) (ks.map keyT) := by
  intro H F2 s1 s2
  have hH := s2 _ _ (s1 _ _ h)
  have hz : (ks.zip vs).length = ks.length := by simp [hl]
  refine ⟨fun i hi => ⟨hH, by rw [hz]; simpa using hi⟩, fun i t ht => ?_⟩
  rw [List.getElem?_map] at ht
  cases ek : ks[i]? with
  | none => rw [ek] at ht; cases ht
  | some k =>
    rw [ek] at ht
    cases ht
    have hi : i < ks.length := (List.getElem?_eq_some_iff.mp ek).1
    refine ⟨⟨hH, by rw [hz]; exact hi⟩, fun x H' y => ?_⟩
    obtain ⟨rfl, k', v, e, rfl⟩ := y
    have := (zip_get e).1
    rw [ek] at this; cases this
    exact ⟨true, .av s2⟩
def tiK (τ : TQ) : TQI := fun env Q => τ env fun r e => ∃ ks ts, r.2 = .dct ks ts ∧ Q (ks.map keyT) e
theorem qi_keys (he : QE X e τ) : QI X tg e (tiK τ) := by
  refine weakI (pi_keys (pe_lk he)) fun σ H Rk ⟨F, A, env, Q, S, h, k⟩ => ?_
  refine lk_dict (Rk := fun x H1 => ∃ d o, x = V.ref d ∧ ((∃ kvs, H1 d = some (.frz o (.dK kvs)) ∧ Rk (Itk d o kvs) H1) ∨ ∃ kvs, H1 d = some (.frz o (.dT kvs)) ∧ Rk (Itkt d o kvs) H1)) (Q1 := fun r e => ∃ ks ts, r.2 = .dct ks ts ∧ Q (ks.map keyT) e) S h (fun r e1 d H1 F1 A1 H2 F2 L q S1 st1 l _ kk => ?_) (fun r e ⟨ks, ts, er, _⟩ => ⟨ks, ts, er⟩)
  obtain ⟨ks, ts, er, q⟩ := q
  obtain ⟨vs, o, h2, f2, hl, rl⟩ := kk ks ts er
  exact ⟨d, o, rfl, .inl ⟨_, h2, k _ _ _ _ q ⟨F1, H1, F2, A1, L, S1, st1, l, it_keys f2 hl⟩⟩⟩
/-- the values -/
theorem it_vals {K : PySem.W.Frag} {F : Hp} {d : Addr} {o : Obj} {ks : List Key} {vs : List V} {ts : List T} (h : F d = some (.frz o (.dK (ks.zip vs)))) (hl : ks.length = vs.length) (r : RepL K F vs ts) : ItOk K F (Itd d o (ks.zip vs)) ts := by
  intro H F2 s1 s2
  have hH := s2 _ _ (s1 _ _ h)
  have hz : (ks.zip vs).length = ts.length := by rw [List.length_zip, hl, r.length]; simp
  refine ⟨fun i hi => ⟨hH, by rw [hz]; exact hi⟩, fun i t ht => ?_⟩
  obtain ⟨v, ev, rv⟩ := r.get ht
  have hi : i < ts.length := (List.getElem?_eq_some_iff.mp ht).1
  refine ⟨⟨hH, by rw [hz]; exact hi⟩, fun x H' y => ?_⟩
  obtain ⟨rfl, k', e⟩ := y
  have := (zip_get e).2
  rw [ev] at this; cases this
  exact ⟨false, .old s2 (rv.mono s1)⟩
def tiV (τ : TQ) : TQI := fun env Q => τ env fun r e => ∃ ks ts, r.2 = .dct ks ts ∧ Q ts e
theorem qi_values {apos cpos : Pos} (he : QE X e τ) (hbase : attributeBase e "values" X.env (eval e X.env) = eval e X.env := by rfl) (hline : (apos.endLine == cpos.line) = true := by rfl) : QI X tg (.Call (.Attribute e "values" apos) [] [] cpos) (tiV τ) := by
  refine weakI (pi_values (pe_lk he) hbase hline) fun σ H Rk ⟨F, A, env, Q, S, h, k⟩ => ?_
  refine lk_dict (Rk := fun x H1 => ∃ d o kvs, x = V.ref d ∧ H1 d = some (.frz o (.dK kvs)) ∧ Rk (Itd d o kvs) H1) (Q1 := fun r e => ∃ ks ts, r.2 = .dct ks ts ∧ Q ts e) S h (fun r e1 d H1 F1 A1 H2 F2 L q S1 st1 l _ kk => ?_) (fun r e ⟨ks, ts, er, _⟩ => ⟨ks, ts, er⟩)
  obtain ⟨ks, ts, er, q⟩ := q
  obtain ⟨vs, o, h2, f2, hl, rl⟩ := kk ks ts er
  exact ⟨d, o, _, rfl, h2, k _ _ _ _ q ⟨F1, H1, F2, A1, L, S1, st1, l, it_vals f2 hl rl⟩⟩
/-- the items -/
theorem it_items {K : PySem.W.Frag} {F : Hp} {d : Addr} {o : Obj} {ks : List Key} {vs : List V} {ts : List T} (h : F d = some (.frz o (.dK (ks.zip vs)))) (hl : ks.length = vs.length) (r : RepL K F vs ts) : ItOk K F (Iti d o (ks.zip vs)) (zipT (ks.map keyT) ts) := by
  intro H F2 s1 s2
  have hH := s2 _ _ (s1 _ _ h)
  have hz : (ks.zip vs).length = (zipT (ks.map keyT) ts).length := by rw [List.length_zip, zipT_length, hl, r.length]; simp; rw [hl, r.length]; simp
  refine ⟨fun i hi => ⟨hH, by rw [hz]; exact hi⟩, fun i w hw => ?_⟩
  have hi : i < (zipT (ks.map keyT) ts).length := (List.getElem?_eq_some_iff.mp hw).1
  obtain ⟨t, u, et, eu, rfl⟩ := zipT_get hw
  obtain ⟨v, ev, rv⟩ := r.get eu
  refine ⟨⟨hH, by rw [hz]; exact hi⟩, fun x H' y => ?_⟩
  obtain ⟨T', k', v', e, rfl, hn, rfl⟩ := y
  obtain ⟨e1, e2⟩ := zip_get e
  rw [ev] at e2; cases e2
  rw [List.getElem?_map, e1] at et
  cases et
  exact ⟨_, New.tup s2 (by simp only [RepL]; exact ⟨kV k', [v], rfl, by simp [keyT, Rep], v, [], rfl, rv.mono s1, rfl⟩) hn⟩
def tiI (τ : TQ) : TQI := fun env Q => τ env fun r e => ∃ ks ts, r.2 = .dct ks ts ∧ Q (zipT (ks.map keyT) ts) e
theorem qi_items {elts : List Expr} {kk : Nat} {tpos : Pos} {apos cpos : Pos} (he : QE X e τ) (hbase : attributeBase e "items" X.env (eval e X.env) = eval e X.env := by rfl) (hline : (apos.endLine == cpos.line) = true := by rfl) : QI X (.Tuple elts kk tpos) (.Call (.Attribute e "items" apos) [] [] cpos) (tiI τ) := by
  refine weakI (pi_items (pe_lk he) hbase hline) fun σ H Rk ⟨F, A, env, Q, S, h, k⟩ => ?_
  refine lk_dict (Rk := fun x H1 => ∃ d o kvs, x = V.ref d ∧ H1 d = some (.frz o (.dK kvs)) ∧ Rk (Iti d o kvs) H1) (Q1 := fun r e => ∃ ks ts, r.2 = .dct ks ts ∧ Q (zipT (ks.map keyT) ts) e) S h (fun r e1 d H1 F1 A1 H2 F2 L q S1 st1 l _ kk => ?_) (fun r e ⟨ks, ts, er, _⟩ => ⟨ks, ts, er⟩)
  obtain ⟨ks, ts, er, q⟩ := q
  obtain ⟨vs, o, h2, f2, hl, rl⟩ := kk ks ts er
  exact ⟨d, o, _, rfl, h2, k _ _ _ _ q ⟨F1, H1, F2, A1, L, S1, st1, l, it_items f2 hl rl⟩⟩
end

/-! ### comprehensions -/
def wipeE (env : Env) : List Nat → Env
  | [] => env
  | v :: vs => (wipeE env vs).set v none
def keepE (o : Option (Option R)) : Option R := match o with
  | some (some (false, t)) => some (false, t)
  | _ => none
/-- behind the block: its own names as they were ahead -/
def restE (env0 env : Env) : List Nat → Env
  | [] => env
  | v :: vs => (restE env0 env vs).set v (keepE env0[v]?)
theorem wipeE_some {env : Env} {i : Nat} {r : R} : ∀ {vs : List Nat}, (wipeE env vs)[i]? = some (some r) → env[i]? = some (some r) ∧ i ∉ vs
  | [], h => ⟨h, by simp⟩
  | v :: vs, h => by
    unfold wipeE at h
    by_cases hi : v = i
    · subst hi
      by_cases hv : v < (wipeE env vs).length
      · rw [List.getElem?_set_self hv] at h; cases h
      · rw [List.getElem?_eq_none (by simpa using hv)] at h; cases h
    · rw [List.getElem?_set_ne hi] at h
      obtain ⟨h1, h2⟩ := wipeE_some h
      exact ⟨h1, by simp only [List.mem_cons, not_or]; exact ⟨fun e => hi e.symm, h2⟩⟩
theorem wipe_get {σ : St} {i : Nat} : ∀ {vs : List Nat}, i ∉ vs → (wipe σ vs)[i]? = σ[i]?
  | [], _ => rfl
  | v :: vs, h => by
    simp only [List.mem_cons, not_or] at h
    unfold wipe
    rw [List.getElem?_set_ne (Ne.symm h.1)]
    exact wipe_get h.2
theorem wipeE_len (env : Env) : ∀ vs : List Nat, (wipeE env vs).length = env.length
  | [] => rfl
  | v :: vs => by unfold wipeE; rw [List.length_set, wipeE_len env vs]
theorem restE_len (env0 env : Env) : ∀ vs : List Nat, (restE env0 env vs).length = env.length
  | [] => rfl
  | v :: vs => by unfold restE; rw [List.length_set, restE_len env0 env vs]
theorem restE_some {env0 env : Env} {i : Nat} {r : R} : ∀ {vs : List Nat}, (restE env0 env vs)[i]? = some (some r) → env[i]? = some (some r) ∨ (∃ t, r = (false, t) ∧ env0[i]? = some (some (false, t)))
  | [], h => .inl h
  | v :: vs, h => by
    unfold restE at h
    by_cases hi : v = i
    · subst hi
      by_cases hv : v < (restE env0 env vs).length
      · rw [List.getElem?_set_self hv, Option.some.injEq] at h
        unfold keepE at h
        split at h
        · rename_i t et
          cases h
          exact .inr ⟨t, rfl, et⟩
        · cases h
      · rw [List.getElem?_eq_none (by simpa using hv)] at h; cases h
    · rw [List.getElem?_set_ne hi] at h
      exact restE_some h
theorem SR.imp {K : PySem.W.Frag} {σ σ' : St} {H F : Hp} {A : Addr → Prop} {env env' : Env} (S : SR K σ H F A env) (le : env'.length ≤ σ'.length)
    (k : ∀ (i : Nat) (r : R), env'[i]? = some (some r) → (env[i]? = some (some r) ∧ σ'[i]? = σ[i]?) ∨ ∃ t v, r = (false, t) ∧ σ'[i]? = some (some v) ∧ Rep K F v t) : SR K σ' H F A env' := by
  classical
  obtain ⟨fh, ah, _, As, h1, h2, h3, h4⟩ := S
  refine ⟨fh, ah, le, fun i => if (∃ r, env'[i]? = some (some r) ∧ env[i]? = some (some r) ∧ σ'[i]? = σ[i]?) then As i else [], fun i r e => ?_, fun i => ?_, fun i j hij a ha hb => ?_, fun i a ha => ?_⟩
  · by_cases q : env[i]? = some (some r) ∧ σ'[i]? = σ[i]?
    · obtain ⟨v, e1, re⟩ := h1 i r q.1
      refine ⟨v, by rw [q.2]; exact e1, ?_⟩
      dsimp only
      rw [if_pos ⟨r, e, q.1, q.2⟩]
      exact re
    · rcases k i r e with z | ⟨t, v, rfl, e1, re⟩
      · exact absurd z q
      · refine ⟨v, e1, ?_⟩
        dsimp only
        rw [if_neg (fun ⟨r', z1, z2, z3⟩ => q (by rw [e] at z1; cases z1; exact ⟨z2, z3⟩)), Res.ff]
        exact ⟨rfl, re⟩
  · show (if _ then _ else _ : List Addr).Nodup
    split
    · exact h2 i
    · exact List.nodup_nil
  · simp only at ha hb
    split at ha
    · split at hb
      · exact h3 i j hij a ha hb
      · simp at hb
    · simp at ha
  · simp only at ha
    split at ha
    · exact h4 i a ha
    · simp at ha
theorem SR.wipe {K : PySem.W.Frag} {σ : St} {H F : Hp} {A : Addr → Prop} {env : Env} (S : SR K σ H F A env) (vs : List Nat) : SR K (wipe σ vs) H F A (wipeE env vs) := by
  refine S.imp (by rw [wipeE_len, wipe_length]; exact S.le) fun i r e => .inl ?_
  obtain ⟨h1, h2⟩ := wipeE_some e
  exact ⟨h1, wipe_get h2⟩
theorem SR.rest {K : PySem.W.Frag} {σ : St} {H F F0 H0 : Hp} {A A0 : Addr → Prop} {env env0 : Env} {vs : List Nat} (S : SR K (L2.wipe σ vs) H F A env) (S0 : SR K σ H0 F0 A0 env0) (f : Same F0 F) : SR K σ H F A (restE env0 env vs) := by
  refine S.imp (by rw [restE_len, ← wipe_length σ vs]; exact S.le) fun i r e => ?_
  rcases restE_some e with h | ⟨t, rfl, h⟩
  · obtain ⟨As, h1, _⟩ := id S.sl
    obtain ⟨v, e1, _⟩ := h1 i r h
    obtain ⟨z1, z2⟩ := wipe_some e1
    exact .inl ⟨h, (wipe_get z2).symm⟩
  · obtain ⟨As, h1, _⟩ := id S0.sl
    obtain ⟨v, e1, re⟩ := h1 i _ h
    rw [Res.ff] at re
    exact .inr ⟨t, v, rfl, e1, re.2.mono f⟩
/-- a write at a place that is nobody's -/
theorem SR.aside {K : PySem.W.Frag} {σ : St} {H F : Hp} {A : Addr → Prop} {env : Env} {D : Addr} {o : HO} (S : SR K σ H F A env) (hD : ¬ A D) (fD : F D = none) : SR K σ (upd H D o) F A env := by
  obtain ⟨fh, ah, le, As, h1, h2, h3, h4⟩ := S
  have ne : ∀ i, ∀ a ∈ As i, a ≠ D := fun i a ha e => hD (by rw [← e]; exact (h4 i a ha).1)
  refine ⟨fun b u q => ?_, fun a ha => ?_, le, As, fun i r e => ?_, h2, h3, h4⟩
  · rw [upd_ne (fun e => by rw [e, fD] at q; cases q)]; exact fh b u q
  · rw [upd_ne (fun (e : a = D) => hD (by rw [← e]; exact ha))]; exact ah a ha
  · obtain ⟨v, e1, q⟩ := h1 i r e
    exact ⟨v, e1, q.go (.refl _) fun a ha => upd_ne (ne i a ha)⟩
theorem ArgsR.snoc {K : PySem.W.Frag} {F H : Hp} {σ : St} {r : R} {v : V} {B : List Addr} (h : Res K F H r v B) : ∀ {as : List Arg} {vs : List V} {A : List Addr}, ArgsR K F H σ as vs A → ArgsR K F H σ (as ++ [.val r]) (vs ++ [v]) (A ++ B)
  | [], _, _, q => by
    obtain ⟨rfl, rfl⟩ := q
    exact ⟨v, [], B, [], rfl, by simp, h, rfl, rfl⟩
  | .val r' :: as, _, _, q => by
    obtain ⟨w, us, B', C, rfl, rfl, q1, p⟩ := q
    exact ⟨w, us ++ [v], B', C ++ B, rfl, by simp, q1, ArgsR.snoc h p⟩
  | .slot i :: as, _, _, q => by
    obtain ⟨w, us, rfl, q1, p⟩ := q
    exact ⟨w, us ++ [v], rfl, q1, ArgsR.snoc h p⟩
def okO (r : R) : Bool := r.1 || r.2.isAv
theorem ArgsR.own {K : PySem.W.Frag} {F H : Hp} {σ : St} : ∀ {rs : List R} {vs : List V} {A : List Addr}, ArgsR K F H σ (rs.map .val) vs A → rs.all okO = true → OwnL H vs (rs.map (·.2)) A
  | [], _, _, q, _ => by obtain ⟨rfl, rfl⟩ := q; simp [OwnL]
  | (b, t) :: rs, _, _, q, h => by
    obtain ⟨w, us, B', C, rfl, rfl, q1, p⟩ := q
    rw [List.all_cons, Bool.and_eq_true] at h
    simp only [List.map_cons, OwnL]
    refine ⟨w, us, B', C, rfl, rfl, ?_, ArgsR.own p h.2⟩
    cases b with
    | true => rw [Res.tt] at q1; exact q1
    | false =>
      cases t with
      | av x =>
        obtain ⟨rfl, rfl⟩ := Res.av q1
        simp [Own]
      | _ => cases h.1
theorem vals_map : ∀ rs : List R, vals (rs.map .val) = some (rs.map (·.2))
  | [] => rfl
  | r :: rs => by simp [vals, vals_map rs]
def mkR (acc : List R) : R := (acc.all okO, .lst (acc.map (·.2)))
/-- one turn after the other -/
def lcT (γ : TGQ) (tt : TQB) (τ : TQ) (vs : List Nat) : List T → List R → Env → (List R → Env → Prop) → Prop
  | [], acc, env, Q => Q acc env
  | t :: ts, acc, env, Q => γ t env fun e1 => tt e1 fun b e2 => if b = true then τ e2 fun r e3 => lcT γ tt τ vs ts (acc ++ [r]) (wipeE e3 vs) Q else lcT γ tt τ vs ts acc (wipeE e2 vs) Q
def tqLc (τi : TQI) (γ : TGQ) (tt : TQB) (τ : TQ) (vs : List Nat) : TQ := fun env Q => τi env fun ts e1 => ts.length ≤ 1000000 ∧ lcT γ tt τ vs ts [] (wipeE e1 vs) fun acc e2 => Q (mkR acc) (restE e1 e2 vs)
def QTs (X : Cx) (ifs : List Expr) (τ : TQB) : Prop := PTs X ifs (liftT X.K τ)
def tqYes : TQB := fun env Q => Q true env
theorem qts_nil {X : Cx} : QTs X [] tqYes := ⟨fun pins s σ H Rk I ⟨F, A, env, Q, S, h, k⟩ => pts_nil.run pins s σ H Rk I (k _ _ _ h ⟨F, A, S, .refl⟩)⟩
theorem qts_one {X : Cx} {c : Expr} {τ : TQB} (h : QT X c τ) : QTs X [c] τ := pts_one h
theorem big_line {n : Nat} (h : n ≤ 1000000) : n < sizeLine := by rw [sizeLine_eq]; omega
section
variable {X : Cx} {tg iter elt : Expr} {ifs : List Expr} {scope : Scope} {own : List (Str × Nat)} {pos : Pos} {ws : List Nat} {τi : TQI} {γ : TGQ} {tt : TQB} {τ : TQ}
/-- the reading of a comprehension -/
theorem lc_read (hws : ∀ i ∈ ws, i ∈ own.map (·.2)) {σ : St} {H : Hp} {Rk : VK} (h : lift X.K (tqLc τi γ tt τ (own.map (·.2))) σ H Rk) :
    tLc (liftI X τi) (liftG X.K ws γ) (liftT X.K tt) (lift X.K τ) (own.map (·.2)) σ H (fun v H' => UO X (Rk v) H') := by
  obtain ⟨F, A, env, Q, S, h, k⟩ := h
  refine ⟨F, A, env, _, S, h, fun ts e1 J H' q O D hD => ?_⟩
  obtain ⟨F1, H1, F2, A1, L, S1, st1, l, it⟩ := O
  obtain ⟨hsz, q⟩ := q
  have S2 := l.same S1
  have fD : F2 D = none := S2.fnone hD
  have aD : ¬ A1 D := fun z => S2.ah D z hD
  -- the word
  refine ⟨fun i m H3 => m + i = ts.length ∧ ∃ (F3 : Hp) (A3 : Addr → Prop) (e3 : Env) (acc : List R) (us : List V) (B : List Addr), SR X.K (wipe σ (own.map (·.2))) H3 F3 A3 e3 ∧ Step H' F2 A1 H3 F3 A3 ∧ H3 D = some (.lst us) ∧ ¬ A3 D ∧ F3 D = none ∧
      ArgsR X.K F3 H3 σ (acc.map .val) us B ∧ B.Nodup ∧ D ∉ B ∧ (∀ a ∈ B, (H' a = none ∨ A1 a) ∧ ¬ A3 a ∧ F3 a = none) ∧ acc.length ≤ i ∧ lcT γ tt τ (own.map (·.2)) (ts.drop i) acc e3 fun acc e2 => Q (mkR acc) (restE e1 e2 (own.map (·.2))), ?_, ?_⟩
  · refine ⟨ts.length, by omega, F2, A1, _, [], [], [], (S2.wipe _).aside aD fD, Step.new hD, upd_same, aD, fD, ⟨rfl, rfl⟩, List.nodup_nil, by simp, by simp, Nat.le_refl _, q⟩
  · rintro i m H3 ⟨hm, F3, A3, e3, acc, us, B, S3, st3, hD3, aD3, fD3, ar, nB, dB, fB, hl, q3⟩
    obtain ⟨stop, go⟩ := it H3 F3 st3.ff S3.fh
    by_cases hlt : i < ts.length
    · obtain ⟨g, y⟩ := go i ts[i] (List.getElem?_eq_getElem hlt)
      rw [List.drop_eq_getElem_cons hlt] at q3
      refine .inr ⟨g, fun H4 => ∃ (F4 : Hp) (A4 : Addr → Prop) (e4 : Env) (acc : List R) (us : List V) (B : List Addr), SR X.K (wipe σ (own.map (·.2))) H4 F4 A4 e4 ∧ Step H' F2 A1 H4 F4 A4 ∧ H4 D = some (.lst us) ∧ ¬ A4 D ∧ F4 D = none ∧
        ArgsR X.K F4 H4 σ (acc.map .val) us B ∧ B.Nodup ∧ D ∉ B ∧ (∀ a ∈ B, (H' a = none ∨ A1 a) ∧ ¬ A4 a ∧ F4 a = none) ∧ acc.length ≤ i + 1 ∧ lcT γ tt τ (own.map (·.2)) (ts.drop (i + 1)) acc e4 fun acc e2 => Q (mkR acc) (restE e1 e2 (own.map (·.2))), fun H4 w => ⟨m - 1, by omega, by omega, w⟩, fun x H4 yx => ?_⟩
      obtain ⟨fl, n⟩ := y x H4 yx
      obtain ⟨F4, A4, S4, st4, re4⟩ := (Out.new S3 n).sh
      -- what is kept through a step
      have keep : ∀ {H5 F5 : Hp} {A5 : Addr → Prop}, Step H3 F3 A3 H5 F5 A5 → H5 D = some (.lst us) ∧ ¬ A5 D ∧ F5 D = none ∧ (∀ a ∈ B, H5 a = H3 a) ∧ (∀ a ∈ B, (H' a = none ∨ A1 a) ∧ ¬ A5 a ∧ F5 a = none) := by
        intro H5 F5 A5 st
        refine ⟨st.hh _ _ hD3 aD3, fun z => (st.an D z).elim aD3 fun z => (by rw [hD3] at z; cases z), st.stays fD3 (by rw [hD3]; simp) aD3, fun a ha => ?_, fun a ha => ⟨(fB a ha).1, fun z => (st.an a z).elim (fB a ha).2.1 fun z => ar.there a ha z, st.stays (fB a ha).2.2 (ar.there a ha) (fB a ha).2.1⟩⟩
        · cases z : H3 a with
          | none => exact absurd z (ar.there a ha)
          | some o => exact st.hh a o z (fB a ha).2.1
      refine ⟨F4, A4, e3, ts[i], _, S4, re4, q3, fun e5 σ5 q5 S5 p5 => ?_⟩
      have hw : wipe σ5 (own.map (·.2)) = wipe σ (own.map (·.2)) := by
        apply List.ext_getElem?
        intro j
        by_cases hj : j ∈ own.map (·.2)
        · have e1 : ∀ (σ' : St), σ'.length = σ.length → (wipe σ' (own.map (·.2)))[j]? = if j < σ.length then some none else none := by
            intro σ' hl'
            by_cases hj2 : j < σ.length
            · rw [if_pos hj2]
              cases z : (wipe σ' (own.map (·.2)))[j]? with
              | none => have := List.getElem?_eq_none_iff.mp z; rw [wipe_length] at this; omega
              | some o =>
                cases o with
                | none => rfl
                | some x => exact absurd hj (wipe_some z).2
            · rw [if_neg hj2]
              exact List.getElem?_eq_none (by rw [wipe_length]; omega)
          rw [e1 σ5 (by rw [p5.1, wipe_length]), e1 σ rfl]
        · rw [wipe_get hj, p5.2 j (fun z => hj (hws j z))]
      refine ⟨hw, liftT_go S5 q5 fun b e6 H6 F6 A6 q6 S6 st6 => ?_⟩
      cases b with
      | false =>
        rw [if_neg Bool.false_ne_true] at q6 ⊢
        have st := st4.trans st6
        obtain ⟨k1, k2, k3, k4, k5⟩ := keep st
        have S7 := S6.wipe (own.map (·.2))
        rw [hw] at S7
        exact ⟨F6, A6, _, acc, us, B, S7, st3.trans st, k1, k2, k3, ar.go st.ff k4, nB, dB, k5, by omega, q6⟩
      | true =>
        rw [if_pos rfl] at q6 ⊢
        refine lift_own S6 q6 fun r e7 v H7 q7 ⟨F7, A7, C, S7, st7, re, nd, fr⟩ => ?_
        have st := (st4.trans st6).trans st7
        obtain ⟨k1, k2, k3, k4, k5⟩ := keep st
        have arL : us.length = acc.length := by
          have z := (ar.go st.ff k4).rep (G := H7) S7.fh (fun a ha o e => e) (vals_map acc)
          have := z.length
          simpa using this
        have dC : D ∉ C := fun z => by
          rcases (fr D z).1 with w | w
          · rw [((keep (st4.trans st6)).1)] at w
            cases w
          · exact (keep (st4.trans st6)).2.1 w
        refine ⟨us, k1, big_line (by omega), ?_⟩
        have S8 := (S7.wipe (own.map (·.2))).aside (D := D) (o := .lst (us ++ [v])) k2 k3
        rw [hw] at S8
        have st9 : Step H' F2 A1 (upd H7 D (.lst (us ++ [v]))) F7 A7 := by
          have s0 := st3.trans st
          refine ⟨s0.ff, fun b o e n => ?_, fun b e => ?_, s0.an, s0.fn⟩
          · rw [upd_ne (fun z => by rw [z, hD] at e; cases e)]; exact s0.hh b o e n
          · by_cases z : b = D
            · rw [z, upd_same]; simp
            · rw [upd_ne z]; exact s0.dom b e
        refine ⟨F7, A7, _, acc ++ [r], us ++ [v], B ++ C, S8, st9, upd_same, k2, k3, ?_, ?_, ?_, ?_, ?_, q7⟩
        · rw [List.map_append]
          refine ((ar.go st.ff k4).snoc re).go (.refl _) fun a ha => upd_ne fun z => ?_
          rcases List.mem_append.mp ha with ha | ha
          · exact dB (z ▸ ha)
          · exact dC (z ▸ ha)
        · refine List.nodup_append.mpr ⟨nB, nd, fun a ha b hb e => ?_⟩
          subst e
          rcases (fr a hb).1 with z | z
          · rw [(keep (st4.trans st6)).2.2.2.1 a ha] at z
            exact ar.there a ha z
          · exact ((keep (st4.trans st6)).2.2.2.2 a ha).2.1 z
        · simp only [List.mem_append, not_or]; exact ⟨dB, dC⟩
        · intro a ha
          rcases List.mem_append.mp ha with ha | ha
          · exact k5 a ha
          · exact ⟨(st3.trans (st4.trans st6)).src (fr a ha).1, (fr a ha).2⟩
        · simp only [List.length_append, List.length_singleton]; omega
    · rw [List.drop_eq_nil_of_le (by omega)] at q3
      refine .inl ⟨stop i (by omega), ?_⟩
      have q3 : Q (mkR acc) (restE e1 e3 (own.map (·.2))) := q3
      have S5 : SR X.K σ H3 F3 A3 (restE e1 e3 (own.map (·.2))) := S3.rest S2 st3.ff
      cases ho : acc.all okO with
      | true =>
        have ow : Own H3 (.ref D) (.lst (acc.map (·.2))) (D :: B) := by
          simp only [Own]
          exact ⟨D, us, B, rfl, rfl, hD3, ar.own ho⟩
        refine l.backR (r := (true, .lst (acc.map (·.2)))) (v := .ref D) (Ar := D :: B) S5 st3 S1.fh (by rw [Res.tt]; exact ow) (List.nodup_cons.mpr ⟨dB, nB⟩) (fun a ha => ?_) fun H4 F4 S4 st4 re4 fr4 => ?_
        · rcases List.mem_cons.mp ha with rfl | ha
          · exact ⟨.inl hD, aD3, fD3⟩
          · exact fB a ha
        · refine k _ _ _ _ q3 (Out.after st1 ⟨F4, A3, D :: B, S4, st4, ?_, List.nodup_cons.mpr ⟨dB, nB⟩, fr4⟩)
          unfold mkR
          rw [ho]
          exact re4
      | false =>
        have fr : ∀ a ∈ D :: B, (H' a = none ∨ A1 a) ∧ ¬ A3 a ∧ F3 a = none := fun a ha => by
          rcases List.mem_cons.mp ha with rfl | ha
          · exact ⟨.inl hD, aD3, fD3⟩
          · exact fB a ha
        have re : Rep X.K (grow F3 H3 (D :: B)) (.ref D) (.lst (acc.map (·.2))) := by
          simp only [Rep]
          refine ⟨D, us, rfl, by rw [grow_mem (by simp)]; exact hD3, ?_⟩
          exact ar.rep (grow_same fun a ha => (fr a ha).2.2) (fun a ha o e => by rw [grow_mem (List.mem_cons_of_mem _ ha)]; exact e) (vals_map acc)
        have st5 : Step H' F2 A1 H3 (grow F3 H3 (D :: B)) A3 := ⟨st3.ff.trans (grow_same fun a ha => (fr a ha).2.2), st3.hh, st3.dom, st3.an, fun b o h => by
          by_cases z : b ∈ D :: B
          · exact .inr (fr b z).1
          · rw [grow_not z] at h; exact st3.fn b o h⟩
        refine l.backR (r := (false, .lst (acc.map (·.2)))) (v := .ref D) (Ar := []) (S5.grow fun a ha => ⟨(fr a ha).2.2, (fr a ha).2.1⟩) st5 S1.fh (by rw [Res.ff]; exact ⟨rfl, re⟩) List.nodup_nil (by simp) fun H4 F4 S4 st4 re4 fr4 => ?_
        refine k _ _ _ _ q3 (Out.after st1 ⟨F4, A3, [], S4, st4, ?_, List.nodup_nil, by simp⟩)
        unfold mkR
        rw [ho]
        exact re4
theorem q_lc (hc : X.calm = true) (hN : X.N.Nodup) (hi : QI X tg iter τi) (ok : BlkOk X.N X.env.scope scope own)
    (hg : ∀ (s : Shared) (H : Hp) (C : Addr) (cl : List (Str × Addr)) (fp : List Addr), QG (X.blk s H scope (compEnvC scope cl C X.env) fp) tg ws γ) (ht : ∀ (s : Shared) (H : Hp) (C : Addr) (cl : List (Str × Addr)) (fp : List Addr), QTs (X.blk s H scope (compEnvC scope cl C X.env) fp) ifs tt)
    (he : ∀ (s : Shared) (H : Hp) (C : Addr) (cl : List (Str × Addr)) (fp : List Addr), QE (X.blk s H scope (compEnvC scope cl C X.env) fp) elt τ) (hws : ∀ i ∈ ws, i ∈ own.map (·.2) := by decide) (hs : ∀ x, foldedSetIterable iter X.env x = pure x := by intro _; rfl) :
    QE X (.ListComp elt [⟨tg, iter, ifs, 0⟩] scope pos) (tqLc τi γ tt τ (own.map (·.2))) :=
  weakE (pe_unlk (pe_lc (g := liftG X.K ws γ) (tt := liftT X.K tt) (te := lift X.K τ) hc hN hi ok hg ht he hs)) fun σ H Rk h => lc_read hws h
/-- y = [..] on one line, y a local -/
theorem qs_setLc {i : Nat} {y : Str} {py spos : Pos} {pn : List Nat} (hc : X.calm = true) (hN : X.N.Nodup) (hy : X.N[i]? = some y) (hyl : X.env.scope.names.lookup y = some .local)
    (hsw : swapsWith (.ListComp elt [⟨tg, iter, ifs, 0⟩] scope pos) (some (.Name y py)) spos.line X.env = pure true) (hi : QI X tg iter τi) (ok : BlkOk X.N X.env.scope scope own)
    (hg : ∀ (s : Shared) (H : Hp) (C : Addr) (cl : List (Str × Addr)) (fp : List Addr), QG (X.blk s H scope (compEnvC scope cl C X.env) fp) tg ws γ) (ht : ∀ (s : Shared) (H : Hp) (C : Addr) (cl : List (Str × Addr)) (fp : List Addr), QTs (X.blk s H scope (compEnvC scope cl C X.env) fp) ifs tt)
    (he : ∀ (s : Shared) (H : Hp) (C : Addr) (cl : List (Str × Addr)) (fp : List Addr), QE (X.blk s H scope (compEnvC scope cl C X.env) fp) elt τ) (hp : i ∉ pn := by simp) (hws : ∀ i ∈ ws, i ∈ own.map (·.2) := by decide) (hs : ∀ x, foldedSetIterable iter X.env x = pure x := by intro _; rfl) :
    QS X pn (.Assign [.Name y py] (.ListComp elt [⟨tg, iter, ifs, 0⟩] scope pos) spos) (sqSet i (tqLc τi γ tt τ (own.map (·.2)))) := by
  have h1 := ps_unlk (ps_setLc (i := i) (g := liftG X.K ws γ) (tt := liftT X.K tt) (te := lift X.K τ) hc hN hy hyl hsw hi ok hg ht he hs)
  have h2 : PS X (.Assign [.Name y py] (.ListComp elt [⟨tg, iter, ifs, 0⟩] scope pos) spos) (tAsg (lift X.K (tqLc τi γ tt τ (own.map (·.2)))) (gName i)) := weakS h1 fun D σ H h => by
    show tLc _ _ _ _ _ σ H (fun x H1 => UO X (D.nx (σ.set i (some x))) H1)
    exact lc_read (Rk := fun x H1 => D.nx (σ.set i (some x)) H1) hws h
  exact qs_set h2 hp
end
end Q
end

section
set_option maxRecDepth 100000
/-! Q7: defs: promises over trees, bodies, calls. -/
namespace Q
open PySem L2

/-! ### promises -/
/-- arguments' trees, what is wanted of the result and of the slots that were handed over -/
abbrev Con := List R → QK → Prop
def spOf (K : PySem.W.Frag) (n : Nat) (κ : Con) : Sp := fun vs H Rk E => ∃ (F : Hp) (A : Addr → Prop) (ts : List R) (Q : QK), vs.length = n ∧ SR K (vs.map some) H F A (ts.map some) ∧ ts.length = n ∧ κ ts Q ∧
  ∀ r post v H', Q r post → Out K (vs.map some) H F A r post v H' → Rk v H'
/-- the pinned parameters behind the body -/
def pinE : List Bool → Env → Env
  | [], _ => []
  | b :: bs, e => (if b = true then (e[0]?).join else none) :: pinE bs e.tail
def pnOf : Nat → List Bool → List Nat
  | _, [] => []
  | i, b :: bs => if b = true then i :: pnOf (i + 1) bs else pnOf (i + 1) bs
theorem pinE_some : ∀ {bs : List Bool} {e : Env} {k i : Nat} {r : R}, (pinE bs e)[i]? = some (some r) → e[i]? = some (some r) ∧ k + i ∈ pnOf k bs
  | [], e, k, i, r, h => by simp [pinE] at h
  | b :: bs, e, k, 0, r, h => by
    simp only [pinE, List.getElem?_cons_zero, Option.some.injEq] at h
    split at h
    · rename_i hb
      cases z : e[0]? with
      | none => rw [z] at h; cases h
      | some o =>
        rw [z] at h
        cases o with
        | none => cases h
        | some r' => cases h; exact ⟨rfl, by simp [pnOf, hb]⟩
    · cases h
  | b :: bs, e, k, i + 1, r, h => by
    simp only [pinE, List.getElem?_cons_succ] at h
    obtain ⟨h1, h2⟩ := pinE_some (k := k + 1) h
    refine ⟨by rw [List.getElem?_tail] at h1; exact h1, ?_⟩
    have e1 : k + (i + 1) = k + 1 + i := by omega
    rw [e1]
    unfold pnOf
    split
    · exact List.mem_cons_of_mem _ h2
    · exact h2
def startE (N : List Str) (ts : List R) : Env := ts.map some ++ List.replicate (N.length - ts.length) none
theorem startE_some {N : List Str} {ts : List R} {i : Nat} {r : R} (h : (startE N ts)[i]? = some (some r)) : (ts.map some)[i]? = some (some r) := by
  unfold startE at h
  by_cases hi : i < ts.length
  · rw [List.getElem?_append_left (by simpa using hi)] at h; exact h
  · rw [List.getElem?_append_right (by simpa using hi), List.getElem?_replicate] at h
    split at h <;> cases h
theorem pn_lt : ∀ {bs : List Bool} {k i : Nat}, i ∈ pnOf k bs → i < k + bs.length
  | [], k, i, h => by simp [pnOf] at h
  | b :: bs, k, i, h => by
    unfold pnOf at h
    simp only [List.length_cons]
    split at h
    · rcases List.mem_cons.mp h with rfl | h
      · omega
      · have := pn_lt h; omega
    · have := pn_lt h; omega
section
variable {P : Program} {w : World} {K : PySem.W.Frag} {mg : Str → Option Value} {base : Heap}
/-- THE RULE for a def that raises nothing -/
theorem fn_q {x qual : Str} {st : Stmt} {f : Addr} {fd : FuncData} {N ps : List Str} {k n : Nat} {κ : Con} (bs : List Bool) (F : Fun K x qual st f fd) (S : FnScope N ps (defScope st)) (hn : ps.length = n) (hb : bs.length ≤ n)
    (hbody : ∀ (cdv : Value) (A : Around) (outer : List PySem.Env) (s : Shared) (H : Hp) (E : XK), Room k (A.deeper (PyProof.Rows.envOfC qual (defScope st) s.heap.objs.size f cdv)) →
      ∃ τ, QSs (cxOf CX0 P w K mg base N qual (defScope st) f cdv A outer s H E).nox (pnOf 0 bs) (defBody st) τ ∧ ∀ ts Q, ts.length = n → κ ts Q → τ ⟨fun e => Q (false, .non) (pinE bs e), fun r e => Q r (pinE bs e), fun _ => False, fun _ => False⟩ (startE N ts)) :
    FnOk P w K mg base CX0 (k + 1) f fd ps (spOf K n κ) := by
  refine F.ok S (fun vs H Rk E h => ?_) (fun cdv A outer s H vs Rk E hr h => ?_)
  · obtain ⟨_, _, _, _, h, _⟩ := h
    rw [h, hn]
  · obtain ⟨F', A', ts, Q, hl, SA, hlt, hκ, kk⟩ := h
    obtain ⟨τ, ht, hτ⟩ := hbody cdv A outer s H E hr
    refine ⟨_, ht, F', A', startE N ts, _, ?_, hτ ts Q hlt hκ, ?_⟩
    · refine SA.imp (by unfold L2.start startE; simp [hl, hlt]) fun i r e => .inl ?_
      have e1 := startE_some e
      refine ⟨e1, ?_⟩
      have hi : i < vs.length := by
        have := (List.getElem?_eq_some_iff.mp e1).1
        simp only [List.length_map] at this
        omega
      unfold L2.start
      rw [List.getElem?_append_left (by simpa using hi)]
    · have back : ∀ {σ' : St} {F2 H2 : Hp} {A2 : Addr → Prop} {e' : Env}, SR K σ' H2 F2 A2 e' → Pin (pnOf 0 bs) (L2.start N vs) σ' → SR K (vs.map some) H2 F2 A2 (pinE bs e') := by
        intro σ' F2 H2 A2 e' S2 p2
        refine S2.imp ?_ fun i r e => .inl ?_
        · have : ∀ (bs : List Bool) (e : Env), (pinE bs e).length = bs.length := by
            intro bs
            induction bs with
            | nil => intro e; rfl
            | cons b bs ih => intro e; simp [pinE, ih]
          rw [this, List.length_map, hl]; exact hb
        · obtain ⟨h1, h2⟩ := pinE_some (k := 0) e
          rw [Nat.zero_add] at h2
          refine ⟨h1, ?_⟩
          rw [p2.2 i h2]
          unfold L2.start
          have := pn_lt h2
          rw [List.getElem?_append_left (by rw [List.length_map]; omega)]
      refine ⟨fun e' σ' H' q ⟨F2, A2, S2, st2, p2⟩ => kk _ _ _ _ q ⟨F2, A2, [], back S2 p2, st2, Res.of_av, List.nodup_nil, by simp⟩,
        fun r e' v H' q ⟨σ', F2, A2, Ar, S2, st2, p2, re, nd, fr⟩ => kk _ _ _ _ q ⟨F2, A2, Ar, back S2 p2, st2, re, nd, fr⟩, fun _ _ _ q _ => q.elim, fun _ _ _ q _ => q.elim⟩
end

/-! ### calls -/
/-- the arguments' trees -/
def argTs (env : Env) : List Arg → Option (List R)
  | [] => some []
  | .val r :: as => (argTs env as).map (r :: ·)
  | .slot i :: as => match env[i]? with
    | some (some r) => (argTs env as).map (r :: ·)
    | _ => none
def slotsOf : List Arg → List Nat
  | [] => []
  | .val _ :: as => slotsOf as
  | .slot i :: as => i :: slotsOf as
/-- the caller's slots behind the call -/
def putA : Env → List Arg → Env → Env
  | env, [], _ => env
  | env, .val _ :: as, es => putA env as es.tail
  | env, .slot i :: as, es => putA (env.set i (es[0]?).join) as es.tail
theorem putA_len : ∀ (as : List Arg) (env es : Env), (putA env as es).length = env.length
  | [], env, es => rfl
  | .val _ :: as, env, es => by unfold putA; exact putA_len as env _
  | .slot i :: as, env, es => by unfold putA; rw [putA_len]; simp
theorem putA_some : ∀ {as : List Arg} {env es : Env} {i : Nat} {r : R}, (slotsOf as).Nodup → (putA env as es)[i]? = some (some r) → (env[i]? = some (some r) ∧ i ∉ slotsOf as) ∨ ∃ j : Nat, as[j]? = some (Arg.slot i) ∧ es[j]? = some (some r)
  | [], env, es, i, r, _, h => .inl ⟨h, by simp [slotsOf]⟩
  | .val r' :: as, env, es, i, r, n, h => by
    unfold putA at h
    rcases putA_some (as := as) (show (slotsOf as).Nodup from n) h with z | ⟨j, z1, z2⟩
    · exact .inl z
    · exact .inr ⟨j + 1, by simpa using z1, by rw [List.getElem?_tail] at z2; exact z2⟩
  | .slot i0 :: as, env, es, i, r, n, h => by
    unfold putA at h
    have n : (i0 :: slotsOf as).Nodup := n
    obtain ⟨n1, n2⟩ := List.nodup_cons.mp n
    rcases putA_some (as := as) n2 h with ⟨z, z'⟩ | ⟨j, z1, z2⟩
    · by_cases hi : i0 = i
      · subst hi
        refine .inr ⟨0, rfl, ?_⟩
        by_cases hl : i0 < env.length
        · rw [List.getElem?_set_self hl, Option.some.injEq] at z
          cases y : es[0]? with
          | none => rw [y] at z; cases z
          | some o => rw [y] at z; cases o with
            | none => cases z
            | some r' => cases z; rfl
        · rw [List.getElem?_eq_none (by simpa using hl)] at z; cases z
      · rw [List.getElem?_set_ne hi] at z
        exact .inl ⟨z, by simp only [slotsOf, List.mem_cons, not_or]; exact ⟨fun e => hi e.symm, z'⟩⟩
    · exact .inr ⟨j + 1, by simpa using z1, by rw [List.getElem?_tail] at z2; exact z2⟩
theorem slot_mem : ∀ {as : List Arg} {j i : Nat}, as[j]? = some (Arg.slot i) → i ∈ slotsOf as
  | [], j, i, h => by simp at h
  | .val r :: as, 0, i, h => by simp at h
  | .val r :: as, j + 1, i, h => by unfold slotsOf; exact slot_mem (by simpa using h)
  | .slot k :: as, 0, i, h => by simp at h; subst h; simp [slotsOf]
  | .slot k :: as, j + 1, i, h => by unfold slotsOf; exact List.mem_cons_of_mem _ (slot_mem (by simpa using h))
theorem slot_inj : ∀ {as : List Arg} {j l i : Nat}, (slotsOf as).Nodup → as[j]? = some (Arg.slot i) → as[l]? = some (Arg.slot i) → j = l
  | [], j, l, i, _, h, _ => by simp at h
  | .val r :: as, 0, l, i, _, h, _ => by simp at h
  | .val r :: as, j + 1, 0, i, _, _, h => by simp at h
  | .val r :: as, j + 1, l + 1, i, n, h, h' => congrArg (· + 1) (slot_inj (as := as) (i := i) (show (slotsOf as).Nodup from n) (by simpa using h) (by simpa using h'))
  | .slot k :: as, 0, 0, i, _, _, _ => rfl
  | .slot k :: as, 0, l + 1, i, n, h, h' => by
    simp at h
    subst h
    exact absurd (slot_mem (by simpa using h')) (List.nodup_cons.mp (show (k :: slotsOf as).Nodup from n)).1
  | .slot k :: as, j + 1, 0, i, n, h, h' => by
    simp at h'
    subst h'
    exact absurd (slot_mem (by simpa using h)) (List.nodup_cons.mp (show (k :: slotsOf as).Nodup from n)).1
  | .slot k :: as, j + 1, l + 1, i, n, h, h' => congrArg (· + 1) (slot_inj (as := as) (i := i) (List.nodup_cons.mp (show (k :: slotsOf as).Nodup from n)).2 (by simpa using h) (by simpa using h'))
/-- the callee's footprints -/
theorem args_split {K : PySem.W.Frag} {F H : Hp} {σ : St} {env : Env} {As : Nat → List Addr} {A : Addr → Prop}
    (h1 : ∀ i r, env[i]? = some (some r) → ∃ v, σ[i]? = some (some v) ∧ Res K F H r v (As i)) (h2 : ∀ i, (As i).Nodup) (h3 : ∀ i j, i ≠ j → ∀ a ∈ As i, a ∉ As j) (h4 : ∀ i, ∀ a ∈ As i, A a ∧ F a = none) :
    ∀ {as : List Arg} {vs : List V} {ts : List R} {Ar : List Addr}, ArgsR K F H σ as vs Ar → Ar.Nodup → (∀ a ∈ Ar, ¬ A a ∧ F a = none) → (slotsOf as).Nodup → argTs env as = some ts →
      ts.length = vs.length ∧ as.length = vs.length ∧ ∃ Bs : Nat → List Addr, (∀ j r, ts[j]? = some r → ∃ v, vs[j]? = some v ∧ Res K F H r v (Bs j)) ∧ (∀ j, (Bs j).Nodup) ∧ (∀ i j, i ≠ j → ∀ a ∈ Bs i, a ∉ Bs j) ∧ (∀ j, ∀ a ∈ Bs j, F a = none ∧ H a ≠ none) ∧
        ∀ j, ∀ a ∈ Bs j, (∃ i, as[j]? = some (Arg.slot i) ∧ a ∈ As i) ∨ a ∈ Ar
  | [], vs, ts, Ar, h, _, _, _, e => by
    obtain ⟨rfl, rfl⟩ := h
    cases e
    exact ⟨rfl, rfl, fun _ => [], by simp, by simp, by simp, by simp, by simp⟩
  | .val r :: as, vs, ts, Ar, h, nd, fr, ns, e => by
    obtain ⟨v, us, B, C, rfl, rfl, q, p⟩ := h
    simp only [argTs, Option.map_eq_some_iff] at e
    obtain ⟨ts', e, rfl⟩ := e
    obtain ⟨n1, n2, n3⟩ := List.nodup_append.mp nd
    obtain ⟨l1, l2, Bs, b1, b2, b3, b4, b5⟩ := args_split h1 h2 h3 h4 p n2 (fun a ha => fr a (List.mem_append_right _ ha)) ns e
    have hB : ∀ a ∈ B, ∀ j, a ∉ Bs j := fun a ha j hj => by
      rcases b5 j a hj with ⟨i, _, z⟩ | z
      · exact (fr a (List.mem_append_left _ ha)).1 (h4 i a z).1
      · exact n3 a ha a z rfl
    refine ⟨by simp [l1], by simp [l2], fun j => match j with | 0 => B | j + 1 => Bs j, fun j r' hj => ?_, fun j => ?_, fun i j hij a ha hb => ?_, fun j a ha => ?_, fun j a ha => ?_⟩
    · cases j with
      | zero => simp at hj; subst hj; exact ⟨v, rfl, q⟩
      | succ j => exact b1 j r' (by simpa using hj)
    · cases j with
      | zero => exact n1
      | succ j => exact b2 j
    · cases i with
      | zero =>
        cases j with
        | zero => exact hij rfl
        | succ j => exact hB a ha j hb
      | succ i =>
        cases j with
        | zero => exact hB a hb i ha
        | succ j => exact b3 i j (by omega) a ha hb
    · cases j with
      | zero => exact ⟨(fr a (List.mem_append_left _ ha)).2, q.there a ha⟩
      | succ j => exact b4 j a ha
    · cases j with
      | zero => exact .inr (List.mem_append_left _ ha)
      | succ j =>
        rcases b5 j a ha with ⟨i, z1, z2⟩ | z
        · exact .inl ⟨i, by simpa using z1, z2⟩
        · exact .inr (List.mem_append_right _ z)
  | .slot i0 :: as, vs, ts, Ar, h, nd, fr, ns, e => by
    obtain ⟨v, us, rfl, q, p⟩ := h
    have ns : (i0 :: slotsOf as).Nodup := ns
    obtain ⟨ns1, ns2⟩ := List.nodup_cons.mp ns
    unfold argTs at e
    split at e
    · rename_i r er
      simp only [Option.map_eq_some_iff] at e
      obtain ⟨ts', e, rfl⟩ := e
      obtain ⟨l1, l2, Bs, b1, b2, b3, b4, b5⟩ := args_split h1 h2 h3 h4 p nd fr ns2 e
      obtain ⟨v', ev, re⟩ := h1 i0 r er
      rw [q] at ev
      cases ev
      have hB : ∀ a ∈ As i0, ∀ j, a ∉ Bs j := fun a ha j hj => by
        rcases b5 j a hj with ⟨i, z1, z⟩ | z
        · exact h3 i0 i (fun w => ns1 (by rw [w]; exact slot_mem z1)) a ha z
        · exact (fr a z).1 (h4 i0 a ha).1
      refine ⟨by simp [l1], by simp [l2], fun j => match j with | 0 => As i0 | j + 1 => Bs j, fun j r' hj => ?_, fun j => ?_, fun i j hij a ha hb => ?_, fun j a ha => ?_, fun j a ha => ?_⟩
      · cases j with
        | zero => simp at hj; subst hj; exact ⟨v, rfl, re⟩
        | succ j => exact b1 j r' (by simpa using hj)
      · cases j with
        | zero => exact h2 i0
        | succ j => exact b2 j
      · cases i with
        | zero =>
          cases j with
          | zero => exact hij rfl
          | succ j => exact hB a ha j hb
        | succ i =>
          cases j with
          | zero => exact hB a hb i ha
          | succ j => exact b3 i j (by omega) a ha hb
      · cases j with
        | zero => exact ⟨(h4 i0 a ha).2, re.there a ha⟩
        | succ j => exact b4 j a ha
      · cases j with
        | zero => exact .inl ⟨i0, rfl, ha⟩
        | succ j =>
          rcases b5 j a ha with ⟨i, z1, z2⟩ | z
          · exact .inl ⟨i, by simpa using z1, z2⟩
          · exact .inr z
    · cases e
/-- a call's two ends -/
theorem call_sr {K : PySem.W.Frag} {σ : St} {H H1 F F1 : Hp} {A A1 : Addr → Prop} {e1 : Env} {rs : List Arg} {vs : List V} {ts : List R} (O : OutL K σ H F A rs e1 vs H1) (ns : (slotsOf rs).Nodup) (et : argTs e1 rs = some ts) :
    ∃ (Fc : Hp) (Ac : Addr → Prop), ts.length = vs.length ∧ SR K (vs.map some) H1 Fc Ac (ts.map some) ∧ ∀ r post v H2, Out K (vs.map some) H1 Fc Ac r post v H2 → Out K σ H F A r (putA e1 rs post) v H2 := by
  classical
  obtain ⟨F1, A1, Ar, S1, st1, ar, nd, fr⟩ := O
  obtain ⟨fh, ah, le, As, h1, h2, h3, h4⟩ := id S1
  obtain ⟨l1, l2, Bs, b1, b2, b3, b4, b5⟩ := args_split h1 h2 h3 h4 ar nd (fun a ha => ⟨(fr a ha).2.1, (fr a ha).2.2⟩) ns et
  have hl : ∀ j, vs.length ≤ j → True := fun _ _ => trivial
  refine ⟨F1, fun a => ∃ j, a ∈ Bs j, l1, ⟨fh, fun a ⟨j, ha⟩ => (b4 j a ha).2, by simp [l1], Bs, fun i r e => ?_, b2, b3, fun j a ha => ⟨⟨j, ha⟩, (b4 j a ha).1⟩⟩, fun r post v H2 O2 => ?_⟩
  · rw [List.getElem?_map] at e
    cases z : ts[i]? with
    | none => rw [z] at e; cases e
    | some r' =>
      rw [z] at e
      cases e
      obtain ⟨v, ev, re⟩ := b1 i _ z
      exact ⟨v, by rw [List.getElem?_map, ev]; rfl, re⟩
  · obtain ⟨F2, A2, Ar2, S2, st2, re2, nd2, fr2⟩ := O2
    obtain ⟨fh2, ah2, le2, As2, g1, g2, g3, g4⟩ := id S2
    -- places of the caller's own slots that were not handed over
    have away : ∀ i, i ∉ slotsOf rs → ∀ a ∈ As i, ¬ ∃ j, a ∈ Bs j := fun i hi a ha ⟨j, hj⟩ => by
      rcases b5 j a hj with ⟨i', z1, z2⟩ | z
      · exact h3 i i' (fun w => hi (by rw [w]; exact slot_mem z1)) a ha z2
      · exact (fr a z).2.1 (h4 i a ha).1
    have hA1 : ∀ a, A1 a → H1 a ≠ none := ah
    have keepH : ∀ i, i ∉ slotsOf rs → ∀ a ∈ As i, H2 a = H1 a := fun i hi a ha => by
      cases z : H1 a with
      | none => exact absurd z (ah a (h4 i a ha).1)
      | some o => exact st2.hh a o z (away i hi a ha)
    have keepF : ∀ a, F1 a = none → H1 a ≠ none → (¬ ∃ j, a ∈ Bs j) → F2 a = none := fun a f h n => st2.stays f h n
    have notin : ∀ i, i ∉ slotsOf rs → ∀ a ∈ As i, a ∉ Ar2 := fun i hi a ha z => by
      rcases (fr2 a z).1 with y | y
      · exact ah a (h4 i a ha).1 y
      · exact away i hi a ha y
    have mem_slot : ∀ {i : Nat}, (¬ ∃ j : Nat, rs[j]? = some (Arg.slot i)) → i ∉ slotsOf rs := fun {i} h z => h (by
            have : ∀ {as : List Arg}, i ∈ slotsOf as → ∃ j : Nat, as[j]? = some (Arg.slot i) := by
              intro as
              induction as with
              | nil => intro z; simp [slotsOf] at z
              | cons a as ih =>
                intro z
                cases a with
                | val r => obtain ⟨j, hj⟩ := ih z; exact ⟨j + 1, by simpa using hj⟩
                | slot i' =>
                  rcases List.mem_cons.mp (show i ∈ i' :: slotsOf as from z) with rfl | z
                  · exact ⟨0, rfl⟩
                  · obtain ⟨j, hj⟩ := ih z; exact ⟨j + 1, by simpa using hj⟩
            exact this z)
    refine ⟨F2, fun a => (A1 a ∨ A2 a) ∧ a ∉ Ar2, Ar2, ⟨fh2, fun a ha => ha.1.elim (fun z => st2.dom a (ah a z)) (ah2 a), by rw [putA_len]; exact le, fun i => if h : ∃ j : Nat, rs[j]? = some (Arg.slot i) then As2 h.choose else As i, fun i r' e => ?_, fun i => ?_, fun i l hil a ha hb => ?_, fun i a ha => ?_⟩, ?_, re2, nd2, fun a ha => ?_⟩
    · by_cases h : ∃ j : Nat, rs[j]? = some (Arg.slot i)
      · dsimp only
        rw [dif_pos h]
        rcases putA_some ns e with ⟨_, z⟩ | ⟨j, z1, z2⟩
        · exact absurd (slot_mem h.choose_spec) z
        · have ej := slot_inj ns z1 h.choose_spec
          obtain ⟨w, e1', re⟩ := g1 j r' z2
          rw [List.getElem?_map] at e1'
          refine ⟨w, ?_, by rw [← ej]; exact re⟩
          -- the slot's value is the argument
          have : ∀ {rs : List Arg} {vs : List V} {Ar : List Addr} {j : Nat}, ArgsR K F1 H1 σ rs vs Ar → rs[j]? = some (Arg.slot i) → ∀ w, vs[j]? = some w → σ[i]? = some (some w) := by
            intro rs
            induction rs with
            | nil => intro vs Ar j _ h; simp at h
            | cons a as ih =>
              intro vs Ar j h hj w hw
              cases a with
              | val r =>
                obtain ⟨v, us, B, C, rfl, rfl, q, p⟩ := h
                cases j with
                | zero => simp at hj
                | succ j => exact ih p (by simpa using hj) w (by simpa using hw)
              | slot i' =>
                obtain ⟨v, us, rfl, q, p⟩ := h
                cases j with
                | zero => simp at hj hw; subst hj hw; exact q
                | succ j => exact ih p (by simpa using hj) w (by simpa using hw)
          cases y : vs[j]? with
          | none => rw [y] at e1'; cases e1'
          | some w' => rw [y] at e1'; cases e1'; exact this ar z1 _ y
      · dsimp only
        rw [dif_neg h]
        rcases putA_some ns e with ⟨z, z'⟩ | ⟨j, z1, _⟩
        · obtain ⟨w, e1', re⟩ := h1 i r' z
          exact ⟨w, e1', re.go st2.ff (keepH i z')⟩
        · exact absurd ⟨j, z1⟩ h
    · dsimp only
      split
      · exact g2 _
      · exact h2 i
    · dsimp only at ha hb
      split at ha
      · rename_i h
        split at hb
        · rename_i h'
          refine g3 _ _ (fun w => hil ?_) a ha hb
          have e1' := h.choose_spec
          have e2' := h'.choose_spec
          rw [w, e2'] at e1'
          cases e1'
          rfl
        · rename_i h'
          have hi : l ∉ slotsOf rs := fun z => h' (by
            have : ∀ {as : List Arg}, l ∈ slotsOf as → ∃ j : Nat, as[j]? = some (Arg.slot l) := by
              intro as
              induction as with
              | nil => intro z; simp [slotsOf] at z
              | cons a as ih =>
                intro z
                cases a with
                | val r => obtain ⟨j, hj⟩ := ih z; exact ⟨j + 1, by simpa using hj⟩
                | slot i' =>
                  rcases List.mem_cons.mp (show l ∈ i' :: slotsOf as from z) with rfl | z
                  · exact ⟨0, rfl⟩
                  · obtain ⟨j, hj⟩ := ih z; exact ⟨j + 1, by simpa using hj⟩
            exact this z)
          rcases st2.an a (g4 _ a ha).1 with z | z
          · exact away l hi a hb z
          · exact ah a (h4 l a hb).1 z
      · rename_i h
        have hi : i ∉ slotsOf rs := fun z => h (by
            have : ∀ {as : List Arg}, i ∈ slotsOf as → ∃ j : Nat, as[j]? = some (Arg.slot i) := by
              intro as
              induction as with
              | nil => intro z; simp [slotsOf] at z
              | cons a as ih =>
                intro z
                cases a with
                | val r => obtain ⟨j, hj⟩ := ih z; exact ⟨j + 1, by simpa using hj⟩
                | slot i' =>
                  rcases List.mem_cons.mp (show i ∈ i' :: slotsOf as from z) with rfl | z
                  · exact ⟨0, rfl⟩
                  · obtain ⟨j, hj⟩ := ih z; exact ⟨j + 1, by simpa using hj⟩
            exact this z)
        split at hb
        · rcases st2.an a (g4 _ a hb).1 with z | z
          · exact away i hi a ha z
          · exact ah a (h4 i a ha).1 z
        · exact h3 i l hil a ha hb
    · dsimp only at ha
      split at ha
      · exact ⟨⟨.inr (g4 _ a ha).1, fun z => (fr2 a z).2.1 (g4 _ a ha).1⟩, (g4 _ a ha).2⟩
      · rename_i h
        exact ⟨⟨.inl (h4 i a ha).1, notin i (mem_slot h) a ha⟩, keepF a (h4 i a ha).2 (ah a (h4 i a ha).1) (away i (mem_slot h) a ha)⟩
    · refine ⟨st1.ff.trans st2.ff, fun b o e n => ?_, fun b e => st2.dom b (st1.dom b e), fun b e => ?_, fun b o e => ?_⟩
      · refine st2.hh b o (st1.hh b o e n) fun ⟨j, hj⟩ => ?_
        rcases b5 j b hj with ⟨i, _, z⟩ | z
        · rcases st1.an b (h4 i b z).1 with y | y
          · exact n y
          · rw [e] at y; cases y
        · rcases (fr b z).1 with y | y
          · rw [y] at e; cases e
          · exact n y
      · have e := e.1
        have nn : ∀ b, H1 b = none → H b = none := fun b z => by
          cases y : H b with
          | none => rfl
          | some o => exact absurd z (st1.dom b (by simp [y]))
        rcases e with e | e
        · exact st1.an b e
        · rcases st2.an b e with ⟨j, z⟩ | z
          · rcases b5 j b z with ⟨i, _, y⟩ | y
            · exact st1.an b (h4 i b y).1
            · exact (fr b y).1.symm
          · exact .inr (nn b z)
      · rcases st2.fn b o e with z | z | z
        · exact st1.fn b o z
        · exact .inr (st1.src (.inl z))
        · obtain ⟨j, z⟩ := z
          rcases b5 j b z with ⟨i, _, y⟩ | y
          · exact .inr (st1.src (.inr (h4 i b y).1))
          · exact .inr (fr b y).1
    · refine ⟨?_, fun z => z.2 ha, (fr2 a ha).2.2⟩
      rcases (fr2 a ha).1 with z | ⟨j, z⟩
      · exact st1.src (.inl z)
      · rcases b5 j a z with ⟨i, _, y⟩ | y
        · exact st1.src (.inr (h4 i a y).1)
        · exact (fr a y).1
def tqCall (κ : Con) (n : Nat) (τs : TQL) : TQ := fun env Q => τs env fun rs e1 => ∃ ts, argTs e1 rs = some ts ∧ ts.length = n ∧ (slotsOf rs).Nodup ∧ κ ts fun r post => Q r (putA e1 rs post)
section
variable {X : Cx} {CX : CXT} {k n : Nat} {f C : Addr} {fd : FuncData} {ps : List Str} {κ : Con} {E : XK} {x m : Str} {p pos apos : Pos} {e o : Expr} {es : List Expr} {τo : TQ} {τs : TQL}
theorem call_read {σ : St} {H : Hp} {Rk : VK} (h : lift X.K (tqCall κ n τs) σ H Rk) : liftL X.K τs σ H fun vs H1 => spOf X.K n κ (vs ++ []) H1 Rk E := by
  obtain ⟨F, A, env, Q, S, h, k⟩ := h
  refine lift_args S h fun rs e1 vs H1 q O => ?_
  obtain ⟨ts, et, hl, ns, q⟩ := q
  obtain ⟨Fc, Ac, l1, Sc, kk⟩ := call_sr (F1 := F) (A1 := A) O ns et
  rw [List.append_nil]
  exact ⟨Fc, Ac, ts, _, by omega, Sc, hl, q, fun r post v H2 q O2 => k _ _ _ _ q (kk r post v H2 O2)⟩
theorem q_call (F : FnOk X.prog X.w X.K X.mg X.base CX k f fd ps (spOf X.K n κ)) (hr : Room k X.A) (hg : Gl X x) (hm : X.mg x = some (.ref f)) (hk : PySem.W.keepIn X.K (.ref f) = true) (hb : Binds X.K fd ps []) (hx : Passes CX X E)
    (ha : QA X (e :: es) τs) (hdb : (x == ("__debug__" : Str)) = false := by decide) (he : starEach (e :: es) X.env = (false, eval e X.env) :: starEach es X.env := by rfl) (hpl : (backTo pos (starEach es X.env)).any (·.1) = false := by rfl) :
    QE X (.Call (.Name x p) (e :: es) [] pos) (tqCall κ n τs) :=
  weakE (pe_call F hr hg hm hk hb .nil hx ha hdb he hpl) fun σ H Rk h => call_read h
/-- o.m(..), o a value: an instance that is only read -/
def tqMeth (C : Addr) (m : Str) (κ : Con) (n : Nat) (τo : TQ) (τs : TQL) : TQ := fun env Q => τo env fun ro e1 => ∃ ns us, ro.2 = .obj C ns us ∧ m ∉ ns ∧ τs e1 fun rs e2 => ∃ ts, argTs e2 rs = some ts ∧ ts.length + 1 = n ∧ (slotsOf rs).Nodup ∧ κ ((false, .obj C ns us) :: ts) fun r post => Q r (putA e2 rs post.tail)
theorem zip_lookup_none : ∀ {ns : List Str} {vs : List V} {m : Str}, m ∉ ns → (ns.zip vs).lookup m = none
  | [], vs, m, _ => rfl
  | a :: ns, [], m, _ => rfl
  | a :: ns, v :: vs, m, h => by
    simp only [List.mem_cons, not_or] at h
    rw [List.zip_cons_cons, List.lookup_cons]
    have : (m == a) = false := beq_eq_false_iff_ne.mpr h.1
    rw [this]
    exact zip_lookup_none h.2
theorem meth_read {σ : St} {H : Hp} {Rk : VK} (h : lift X.K (tqMeth C m κ n τo τs) σ H Rk) : tMeth C m (spOf X.K n κ) [] E (lift X.K τo) (liftL X.K τs) σ H Rk := by
  obtain ⟨F, A, env, Q, S, h, k⟩ := h
  refine lift_sh S h fun ro e1 x H1 F1 A1 q S1 st1 re => ?_
  obtain ⟨nms, us, er, hmn, q⟩ := q
  rw [er] at re
  have re0 := re
  simp only [Rep] at re0
  obtain ⟨a, dx, vs, rfl, ha, hl, rl⟩ := re0
  refine ⟨a, dx, _, rfl, S1.fh _ _ ha, zip_lookup_none hmn, lift_args S1 q fun rs e2 ws H2 q O => ?_⟩
  obtain ⟨ts, et, hn, ns, q⟩ := q
  have O' : OutL X.K σ H1 F1 A1 (.val (false, .obj C nms us) :: rs) e2 (.ref a :: ws) H2 := O.after S1 .refl (by rw [Res.ff]; exact ⟨rfl, re⟩) List.nodup_nil (by simp)
  obtain ⟨Fc, Ac, l1, Sc, kk⟩ := call_sr (F1 := F) (A1 := A) (ts := (false, .obj C nms us) :: ts) O' ns (by simp [argTs, et])
  rw [List.append_nil]
  simp only [List.length_cons] at l1
  refine ⟨Fc, Ac, _, _, by simp only [List.length_cons]; omega, Sc, by simp only [List.length_cons]; omega, q, fun r post v H3 q O2 => k _ _ _ _ q ?_⟩
  exact (kk r post v H3 O2).after st1
theorem q_meth {pl : Sem Bool} (ho : QE X o τo) (c : Cls X.K C) (hm : Meth X.K C m f) (F : FnOk X.prog X.w X.K X.mg X.base CX k f fd ps (spOf X.K n κ)) (hr : Room k X.A) (hb : Binds X.K fd ps []) (hx : Passes CX X E) (ha : QA X (e :: es) τs)
    (hst : starEach (e :: es) X.env = (false, eval e X.env) :: starEach es X.env := by rfl) (hpl : (backTo pos (starEach es X.env)).any (·.1) = false := by rfl)
    (ht : eval (.Call (.Attribute o m apos) (e :: es) [] pos) X.env = (do
      let ov ← eval o X.env
      standAt apos.atName
      let (f, first) ← holding [ov] (getMethod ov m pl)
      callWith pos f first (backTo pos (starEach (e :: es) X.env)) (backToKw pos (keywordEach [] X.env))) := by rfl) : QE X (.Call (.Attribute o m apos) (e :: es) [] pos) (tqMeth C m κ n τo τs) :=
  weakE (pe_meth ho c hm F hr hb .nil hx ha hst hpl ht) fun _ _ _ h => meth_read h
theorem q_meth0 {pl : Sem Bool} (ho : QE X o τo) (c : Cls X.K C) (hm : Meth X.K C m f) (F : FnOk X.prog X.w X.K X.mg X.base CX k f fd ps (spOf X.K n κ)) (hr : Room k X.A) (hb : Binds X.K fd ps []) (hx : Passes CX X E)
    (ht : eval (.Call (.Attribute o m apos) [] [] pos) X.env = (do
      let ov ← eval o X.env
      standAt apos.atName
      let (f, first) ← holding [ov] (getMethod ov m pl)
      callWith pos f first (backTo pos (starEach [] X.env)) (backToKw pos (keywordEach [] X.env))) := by rfl) : QE X (.Call (.Attribute o m apos) [] [] pos) (tqMeth C m κ n τo tqNil) := by
  refine weakE (pe_meth0 ho c hm F hr hb .nil hx ht) fun σ H Rk h => ?_
  have q := meth_read (E := E) h
  obtain ⟨F, A, env, Q, S, h, k⟩ := q
  refine ⟨F, A, env, Q, S, h, fun r env' v H' q O => ?_⟩
  obtain ⟨a, dx, fs, e1, e2, e3, h⟩ := k r env' v H' q O
  refine ⟨a, dx, fs, e1, e2, e3, ?_⟩
  obtain ⟨F2, A2, env2, Q2, S2, h2, k2⟩ := h
  exact k2 [] _ [] H' h2 ⟨F2, A2, [], S2, .refl, ⟨rfl, rfl⟩, List.nodup_nil, by simp⟩
/-- o.m(..), o a slot that holds an instance of its own: the method may change it -/
def tqMethS (i : Nat) (C : Addr) (m : Str) (κ : Con) (n : Nat) (τs : TQL) : TQ := fun env Q => ∃ fl ns us, env[i]? = some (some (fl, .obj C ns us)) ∧ m ∉ ns ∧ τs env fun rs e2 => ∃ ts, argTs e2 (Arg.slot i :: rs) = some ts ∧ ts.length = n ∧ (slotsOf (Arg.slot i :: rs)).Nodup ∧ κ ts fun r post => Q r (putA e2 (Arg.slot i :: rs) post)
theorem methS_read {i : Nat} {σ : St} {H : Hp} {Rk : VK} (h : lift X.K (tqMethS i C m κ n τs) σ H Rk) : tMeth C m (spOf X.K n κ) [] E (tVar i) (liftL X.K τs) σ H Rk := by
  obtain ⟨F, A, env, Q, S, h, k⟩ := h
  obtain ⟨fl, nms, us, er, hmn, h⟩ := h
  obtain ⟨As, h1, _⟩ := id S.sl
  obtain ⟨v, ev, re⟩ := h1 i _ er
  refine ⟨v, ev, ?_⟩
  have z : ∃ a dx vs, v = .ref a ∧ H a = some (.ins C dx (nms.zip vs)) := by
    cases fl with
    | true => rw [Res.tt] at re; simp only [Own] at re; obtain ⟨a, dx, vs, B, e1, _, e2, _⟩ := re; exact ⟨a, dx, vs, e1, e2⟩
    | false => rw [Res.ff] at re; simp only [Rep] at re; obtain ⟨_, a, dx, vs, e1, e2, _⟩ := re; exact ⟨a, dx, vs, e1, S.fh _ _ e2⟩
  obtain ⟨a, dx, vs, rfl, ha⟩ := z
  refine ⟨a, dx, _, rfl, ha, zip_lookup_none hmn, lift_args S h fun rs e2 ws H2 q O => ?_⟩
  obtain ⟨ts, et, hn, ns, q⟩ := q
  have O' : OutL X.K σ H F A (Arg.slot i :: rs) e2 (.ref a :: ws) H2 := by
    obtain ⟨F2, A2, Ar, S2, st2, ar, nd, fr⟩ := O
    exact ⟨F2, A2, Ar, S2, st2, ⟨_, ws, rfl, ev, ar⟩, nd, fr⟩
  obtain ⟨Fc, Ac, l1, Sc, kk⟩ := call_sr (F1 := F) (A1 := A) O' ns et
  rw [List.append_nil]
  exact ⟨Fc, Ac, ts, _, by omega, Sc, hn, q, fun r post v H3 q O2 => k _ _ _ _ q (kk r post v H3 O2)⟩
theorem q_methS {i : Nat} {pl : Sem Bool} (ho : PE X o (tVar i)) (c : Cls X.K C) (hm : Meth X.K C m f) (F : FnOk X.prog X.w X.K X.mg X.base CX k f fd ps (spOf X.K n κ)) (hr : Room k X.A) (hb : Binds X.K fd ps []) (hx : Passes CX X E) (ha : QA X (e :: es) τs)
    (hst : starEach (e :: es) X.env = (false, eval e X.env) :: starEach es X.env := by rfl) (hpl : (backTo pos (starEach es X.env)).any (·.1) = false := by rfl)
    (ht : eval (.Call (.Attribute o m apos) (e :: es) [] pos) X.env = (do
      let ov ← eval o X.env
      standAt apos.atName
      let (f, first) ← holding [ov] (getMethod ov m pl)
      callWith pos f first (backTo pos (starEach (e :: es) X.env)) (backToKw pos (keywordEach [] X.env))) := by rfl) : QE X (.Call (.Attribute o m apos) (e :: es) [] pos) (tqMethS i C m κ n τs) :=
  weakE (pe_meth ho c hm F hr hb .nil hx ha hst hpl ht) fun _ _ _ h => methS_read h
theorem q_methS0 {i : Nat} {pl : Sem Bool} (ho : PE X o (tVar i)) (c : Cls X.K C) (hm : Meth X.K C m f) (F : FnOk X.prog X.w X.K X.mg X.base CX k f fd ps (spOf X.K n κ)) (hr : Room k X.A) (hb : Binds X.K fd ps []) (hx : Passes CX X E)
    (ht : eval (.Call (.Attribute o m apos) [] [] pos) X.env = (do
      let ov ← eval o X.env
      standAt apos.atName
      let (f, first) ← holding [ov] (getMethod ov m pl)
      callWith pos f first (backTo pos (starEach [] X.env)) (backToKw pos (keywordEach [] X.env))) := by rfl) : QE X (.Call (.Attribute o m apos) [] [] pos) (tqMethS i C m κ n tqNil) := by
  refine weakE (pe_meth0 ho c hm F hr hb .nil hx ht) fun σ H Rk h => ?_
  have q := methS_read (E := E) h
  obtain ⟨v, e0, a, dx, fs, e1, e2, e3, h⟩ := q
  refine ⟨v, e0, a, dx, fs, e1, e2, e3, ?_⟩
  obtain ⟨F2, A2, env2, Q2, S2, h2, k2⟩ := h
  exact k2 [] _ [] H h2 ⟨F2, A2, [], S2, .refl, ⟨rfl, rfl⟩, List.nodup_nil, by simp⟩
end
/-- .. where no slot is handed over -/
theorem call_sr0 {K : PySem.W.Frag} {σ : St} {H H1 F : Hp} {A : Addr → Prop} {e1 : Env} {rs : List Arg} {vs : List V} {ts : List R} (O : OutL K σ H F A rs e1 vs H1) (ns : slotsOf rs = []) (et : argTs e1 rs = some ts) :
    ∃ (Fc : Hp) (Ac A1 : Addr → Prop), ts.length = vs.length ∧ SR K (vs.map some) H1 Fc Ac (ts.map some) ∧ SR K σ H1 Fc A1 e1 ∧ Step H F A H1 Fc A1 ∧ ∀ a, Ac a → (H a = none ∨ A a) ∧ ¬ A1 a := by
  obtain ⟨F1, A1, Ar, S1, st1, ar, nd, fr⟩ := O
  obtain ⟨fh, ah, le, As, h1, h2, h3, h4⟩ := id S1
  obtain ⟨l1, l2, Bs, b1, b2, b3, b4, b5⟩ := args_split h1 h2 h3 h4 ar nd (fun a ha => ⟨(fr a ha).2.1, (fr a ha).2.2⟩) (by rw [ns]; exact List.nodup_nil) et
  refine ⟨F1, fun a => ∃ j, a ∈ Bs j, A1, l1, ⟨fh, fun a ⟨j, ha⟩ => (b4 j a ha).2, by simp [l1], Bs, fun i r e => ?_, b2, b3, fun j a ha => ⟨⟨j, ha⟩, (b4 j a ha).1⟩⟩, S1, st1, fun a ⟨j, ha⟩ => ?_⟩
  · rw [List.getElem?_map] at e
    cases z : ts[i]? with
    | none => rw [z] at e; cases e
    | some r' =>
      rw [z] at e
      cases e
      obtain ⟨v, ev, re⟩ := b1 i _ z
      exact ⟨v, by rw [List.getElem?_map, ev]; rfl, re⟩
  · rcases b5 j a ha with ⟨i, z, _⟩ | z
    · have := slot_mem z
      rw [ns] at this
      simp at this
    · exact ⟨(fr a z).1, (fr a z).2.1⟩
/-- C(..) -/
def tqMake (C : Addr) (κ : Con) (n : Nat) (τs : TQL) : TQ := fun env Q => τs env fun rs e1 => ∃ ts, argTs e1 rs = some ts ∧ ts.length + 1 = n ∧ slotsOf rs = [] ∧ κ ((true, .obj C [] []) :: ts) fun r post => r.2 = .non ∧ ∃ o, post[0]? = some (some (true, o)) ∧ Q (true, o) e1
section
variable {X : Cx} {CX : CXT} {k n : Nat} {f C : Addr} {fd : FuncData} {ps : List Str} {κ : Con} {E : XK} {x m : Str} {p pos apos : Pos} {e o : Expr} {es : List Expr} {τo : TQ} {τs : TQL}
theorem make_read {σ : St} {H : Hp} {Rk : VK} (h : lift X.K (tqMake C κ n τs) σ H Rk) : tMake C (spOf X.K n κ) [] E (liftL X.K τs) σ H Rk := by
  obtain ⟨F, A, env, Q, S, h, k⟩ := h
  refine lift_args S h fun rs e1 vs H1 q O x dx nx nd ne => ?_
  obtain ⟨ts, et, hn, ns, q⟩ := q
  have O' : OutL X.K σ H F A (.val (true, .obj C [] []) :: rs) e1 (.ref x :: vs) (upd (upd H1 dx (.own x)) x (.ins C dx [])) := by
    obtain ⟨F1, A1, Ar, S1, st1, ar, nd1, fr⟩ := O
    have sm : Same H1 (upd (upd H1 dx (.own x)) x (.ins C dx [])) := fun b o e => by rw [upd_ne (ne_of_none e nx), upd_ne (ne_of_none e nd)]; exact e
    have hx : ∀ b, H1 b = none → H b = none := fun b z => by
      cases y : H b with
      | none => rfl
      | some o => exact absurd z (st1.dom b (by simp [y]))
    have nA : ∀ b, H1 b = none → ¬ A1 b := fun b z y => S1.ah b y z
    refine ⟨F1, A1, [x, dx] ++ Ar, S1.same sm, st1.trans (.same sm), ⟨.ref x, vs, [x, dx], Ar, rfl, rfl, ?_, ar.go (.refl _) fun a ha => ?_⟩, ?_, fun a ha => ?_⟩
    · rw [Res.tt]
      simp only [Own]
      exact ⟨x, dx, [], [], rfl, rfl, upd_same, by rw [upd_ne ne, upd_same], rfl, by simp [OwnL]⟩
    · cases z : H1 a with
      | none => exact absurd z (ar.there a ha)
      | some o => exact sm a o z
    · refine List.nodup_append.mpr ⟨by simp; exact fun z => ne z.symm, nd1, fun a ha b hb z => ?_⟩
      subst z
      have := ar.there a hb
      simp only [List.mem_cons, List.not_mem_nil, or_false] at ha
      rcases ha with rfl | rfl
      · exact this nx
      · exact this nd
    · rcases List.mem_append.mp ha with ha | ha
      · simp only [List.mem_cons, List.not_mem_nil, or_false] at ha
        rcases ha with rfl | rfl
        · exact ⟨.inl (hx _ nx), nA _ nx, S1.fnone nx⟩
        · exact ⟨.inl (hx _ nd), nA _ nd, S1.fnone nd⟩
      · exact fr a ha
  obtain ⟨Fc, Ac, A1, l1, Sc, S1, st1, hAc⟩ := call_sr0 (ts := (true, .obj C [] []) :: ts) O' ns (by simp [argTs, et])
  rw [List.append_nil]
  simp only [List.length_cons] at l1
  refine ⟨Fc, Ac, _, _, by simp only [List.length_cons]; omega, Sc, by simp only [List.length_cons]; omega, q, fun r post v H2 q O2 => ?_⟩
  obtain ⟨er, o, ep, q⟩ := q
  obtain ⟨F2, A2, Ar2, S2, st2, re2, nd2, fr2⟩ := O2
  have ev : v = .non := by
    obtain ⟨b, t⟩ := r
    simp only at er
    subst er
    exact (Res.av re2).1
  refine ⟨ev, k _ _ _ _ q ?_⟩
  obtain ⟨fh2, ah2, le2, As2, g1, g2, g3, g4⟩ := id S2
  obtain ⟨w, ew, re⟩ := g1 0 _ ep
  simp only [List.map_cons, List.getElem?_cons_zero, Option.some.injEq] at ew
  subst ew
  obtain ⟨fh1, ah1, le1, As1, h1, h2, h3, h4⟩ := id S1
  have nH : ∀ b, (upd (upd H1 dx (.own x)) x (.ins C dx [])) b = none → H b = none := fun b z => by
    cases y : H b with
    | none => rfl
    | some o => exact absurd z (st1.dom b (by simp [y]))
  have kp : ∀ a, A1 a → H2 a = (upd (upd H1 dx (.own x)) x (.ins C dx [])) a := fun a ha => by
    cases z : (upd (upd H1 dx (.own x)) x (.ins C dx [])) a with
    | none => exact absurd z (ah1 a ha)
    | some o => exact st2.hh a o z fun y => (hAc a y).2 ha
  refine ⟨F2, A1, As2 0, ⟨fh2, fun a ha => st2.dom a (ah1 a ha), le1, As1, fun i r e => ?_, h2, h3, fun i a ha => ⟨(h4 i a ha).1, ?_⟩⟩, ⟨st1.ff.trans st2.ff, fun b o e nn => ?_, fun b e => st2.dom b (st1.dom b e), st1.an, fun b o e => ?_⟩, re, g2 0, fun a ha => ?_⟩
  · obtain ⟨w, e1, q⟩ := h1 i r e
    exact ⟨w, e1, q.go st2.ff fun a ha => kp a (h4 i a ha).1⟩
  · exact st2.stays (h4 i a ha).2 (ah1 a (h4 i a ha).1) fun y => (hAc a y).2 (h4 i a ha).1
  · exact st2.hh b o (st1.hh b o e nn) fun y => by
      rcases (hAc b y).1 with z | z
      · rw [z] at e; cases e
      · exact nn z
  · rcases st2.fn b o e with y | y | y
    · exact st1.fn b o y
    · exact .inr (.inl (nH b y))
    · exact .inr (hAc b y).1
  · refine ⟨?_, fun y => ?_, (g4 0 a ha).2⟩
    · rcases st2.an a (g4 0 a ha).1 with y | y
      · exact (hAc a y).1
      · exact .inl (nH a y)
    · rcases st2.an a (g4 0 a ha).1 with z | z
      · exact (hAc a z).2 y
      · exact ah1 a y z
theorem q_make (M : Mk X.K C f) (F : FnOk X.prog X.w X.K X.mg X.base CX k f fd ps (spOf X.K n κ)) (hr : Room (k + 1) X.A) (hg : Gl X x) (hm : X.mg x = some (.ref C)) (hb : Binds X.K fd ps []) (hx : Passes CX X E)
    (ha : QA X (e :: es) τs) (hdb : (x == ("__debug__" : Str)) = false := by decide) (he : starEach (e :: es) X.env = (false, eval e X.env) :: starEach es X.env := by rfl) (hpl : (backTo pos (starEach es X.env)).any (·.1) = false := by rfl) :
    QE X (.Call (.Name x p) (e :: es) [] pos) (tqMake C κ n τs) :=
  weakE (pe_make M F hr hg hm hb .nil hx ha hdb he hpl) fun _ _ _ h => make_read h
end
end Q
end

section
set_option maxRecDepth 100000
/-! Q8: places within an owned tree, what changes them. -/
namespace Q
open PySem L2

/-! ### quiet evaluation: all that stands may be read, nothing is changed -/
def frzE (env : Env) : Env := env.map (Option.map fun r => (false, r.2))
theorem frzE_some {env : Env} {i : Nat} {r : R} (h : (frzE env)[i]? = some (some r)) : ∃ r', env[i]? = some (some r') ∧ r = (false, r'.2) := by
  unfold frzE at h
  rw [List.getElem?_map] at h
  cases z : env[i]? with
  | none => rw [z] at h; cases h
  | some o =>
    rw [z] at h
    cases o with
    | none => cases h
    | some r' => cases h; exact ⟨r', rfl, rfl⟩
theorem SR.full {K : PySem.W.Frag} {σ : St} {H F : Hp} {A : Addr → Prop} {env : Env} (S : SR K σ H F A env) : SR K σ H H (fun _ => False) (frzE env) := by
  obtain ⟨fh, ah, le, As, h1, h2, h3, h4⟩ := S
  refine ⟨.refl _, fun _ h => h.elim, by unfold frzE; simpa using le, fun _ => [], fun i r e => ?_, by simp, by simp, by simp⟩
  obtain ⟨r', er, rfl⟩ := frzE_some e
  obtain ⟨v, e1, re⟩ := h1 i r' er
  exact ⟨v, e1, by rw [Res.ff]; exact ⟨rfl, re.rep fh fun a ha o e => e⟩⟩
theorem step_full {H H' F' : Hp} {A' : Addr → Prop} (st : Step H H (fun _ => False) H' F' A') : Same H H' := fun b o e => st.hh b o e fun h => h
theorem Res.closed {K : PySem.W.Frag} {F F' H : Hp} {r : R} {v : V} {A : List Addr} (h : Res K F H r v A) (o : okO r = true) : Res K F' H r v A := by
  obtain ⟨b, t⟩ := r
  cases b with
  | true => rw [Res.tt] at h ⊢; exact h
  | false =>
    cases t with
    | av x => obtain ⟨rfl, rfl⟩ := Res.av h; exact Res.of_av
    | _ => cases o
def tqQuiet (τ : TQ) : TQ := fun env Q => τ (frzE env) fun r e' => okO r = true ∧ Q r env
theorem q_quiet {X : Cx} {e : Expr} {τ : TQ} (h : QE X e τ) : QE X e (tqQuiet τ) := by
  refine weakE h fun σ H Rk ⟨F, A, env, Q, S, h, k⟩ => ?_
  refine ⟨H, _, _, _, S.full, h, fun r e' v H' ⟨ho, q⟩ ⟨F', A', Ar, S', st, re, nd, fr⟩ => k _ _ _ _ q ?_⟩
  have sm := step_full st
  have fr' : ∀ a ∈ Ar, H a = none := fun a ha => (fr a ha).1.elim id False.elim
  refine ⟨F, A, Ar, S.same sm, .same sm, re.closed ho, nd, fun a ha => ⟨.inl (fr' a ha), fun z => S.ah a z (fr' a ha), S.fnone (fr' a ha)⟩⟩
def qtQuiet (τ : TQB) : TQB := fun env Q => τ (frzE env) fun b e' => Q b env
theorem qt_quiet {X : Cx} {e : Expr} {τ : TQB} (h : QT X e τ) : QT X e (qtQuiet τ) := by
  refine weakT h fun σ H Rk ⟨F, A, env, Q, S, h, k⟩ => ?_
  refine ⟨H, _, _, _, S.full, h, fun b e' H' q ⟨F', A', S', st⟩ => k _ _ _ q ⟨F, A, S.same (step_full st), .same (step_full st)⟩⟩
/-- a slot shared from now on -/
def tqShare (i : Nat) : TQ := fun env Q => ∃ r, env[i]? = some (some r) ∧ Q (false, r.2) (env.set i (some (false, r.2)))
theorem SR.freeze {K : PySem.W.Frag} {σ : St} {H F : Hp} {A : Addr → Prop} {env : Env} (S : SR K σ H F A env) {i : Nat} {r : R} (e : env[i]? = some (some r)) : ∃ F' A' v, SR K σ H F' A' (env.set i (some (false, r.2))) ∧ (∀ a, A' a → A a) ∧ (∀ b o, F' b = some o → F b = some o ∨ A b) ∧ Same F F' ∧ σ[i]? = some (some v) ∧ Rep K F' v r.2 := by
  obtain ⟨fh, ah, le, As, h1, h2, h3, h4⟩ := S
  obtain ⟨v, e1, re⟩ := h1 i r e
  refine ⟨Q.grow F H (As i), fun a => A a ∧ a ∉ As i, v, ⟨grow_in fh, fun a ha => ah a ha.1, by simpa using le, fun j => if j = i then [] else As j, fun j r' e' => ?_, fun j => ?_, fun j l hjl a ha hb => ?_, fun j a ha => ?_⟩, fun _ z => z.1, fun b o hb => ?_, grow_same fun a ha => (h4 i a ha).2, e1, re.rep (grow_same fun a ha => (h4 i a ha).2) fun a ha o eo => by rw [grow_mem ha]; exact eo⟩
  · by_cases hj : j = i
    · subst hj
      have hl : j < env.length := (List.getElem?_eq_some_iff.mp e).1
      rw [List.getElem?_set_self hl] at e'
      cases e'
      refine ⟨v, e1, ?_⟩
      simp only [if_true]
      rw [Res.ff]
      exact ⟨rfl, re.rep (grow_same fun a ha => (h4 j a ha).2) fun a ha o eo => by rw [grow_mem ha]; exact eo⟩
    · rw [List.getElem?_set_ne (Ne.symm hj)] at e'
      obtain ⟨w, e2, q⟩ := h1 j r' e'
      exact ⟨w, e2, by simpa [hj] using q.go (grow_same fun a ha => (h4 i a ha).2) fun _ _ => rfl⟩
  · dsimp only
    split
    · exact List.nodup_nil
    · exact h2 j
  · dsimp only at ha hb
    split at ha
    · simp at ha
    · split at hb
      · simp at hb
      · exact h3 j l hjl a ha hb
  · dsimp only at ha
    split at ha
    · simp at ha
    · rename_i hj
      exact ⟨⟨(h4 j a ha).1, fun z => h3 j i hj a ha z⟩, by rw [grow_not fun z => h3 j i hj a ha z]; exact (h4 j a ha).2⟩
  · by_cases z : b ∈ As i
    · exact .inr (h4 i b z).1
    · rw [grow_not z] at hb; exact .inl hb

/-! ### places -/
def T.kids : T → List T
  | .lst ts => ts
  | .tup ts => ts
  | .dct _ ts => ts
  | .dtt _ ts => ts
  | .obj _ _ ts => ts
  | _ => []
def T.setKids (t : T) (us : List T) : T := match t with
  | .lst _ => .lst us
  | .tup _ => .tup us
  | .dct ks _ => .dct ks us
  | .dtt ks _ => .dtt ks us
  | .obj C ns _ => .obj C ns us
  | t => t
/-- the tree at a place -/
def T.at_ : T → List Nat → Option T
  | t, [] => some t
  | t, j :: p => match t.kids[j]? with
    | some u => u.at_ p
    | none => none
/-- another tree at a place -/
def T.put : T → List Nat → T → T
  | _, [], u => u
  | t, j :: p, u => match t.kids[j]? with
    | some c => t.setKids (t.kids.set j (c.put p u))
    | none => t
def kidsV (H : Hp) (a : Addr) : List V := match H a with
  | some (.lst vs) => vs
  | some (.tup vs) => vs
  | some (.dK kvs) => kvs.map (·.2)
  | some (.dT kvs) => kvs.map (·.2)
  | some (.ins _ _ fs) => fs.map (·.2)
  | _ => []
/-- the value at a place -/
def ValAt (H : Hp) : V → List Nat → V → Prop
  | v, [], w => v = w
  | v, j :: p, w => ∃ a u, v = .ref a ∧ (kidsV H a)[j]? = some u ∧ ValAt H u p w
theorem OwnL.length {H : Hp} : ∀ {ts : List T} {vs : List V} {A : List Addr}, OwnL H vs ts A → vs.length = ts.length
  | [], vs, A, h => by simp only [OwnL] at h; simp [h.1]
  | t :: ts, vs, A, h => by
    simp only [OwnL] at h
    obtain ⟨v, r, B, C, rfl, rfl, q, p⟩ := h
    simp [OwnL.length p]
/-- one child out of many -/
theorem OwnL.focus {H : Hp} : ∀ {ts : List T} {vs : List V} {A : List Addr}, OwnL H vs ts A → A.Nodup → ∀ {j : Nat} {c : T}, ts[j]? = some c → ∃ v B, vs[j]? = some v ∧ Own H v c B ∧ B.Nodup ∧ (∀ a ∈ B, a ∈ A) ∧
    ∀ H' c' B', Own H' v c' B' → B'.Nodup → (∀ a ∈ A, a ∉ B → H' a = H a) → (∀ a ∈ B', a ∈ A → a ∈ B) → ∃ A', OwnL H' vs (ts.set j c') A' ∧ A'.Nodup ∧ ∀ a ∈ A', (a ∈ A ∧ a ∉ B) ∨ a ∈ B'
  | [], vs, A, h, _, j, c, hj => by simp at hj
  | t :: ts, vs, A, h, nd, 0, c, hj => by
    simp only [OwnL] at h
    obtain ⟨v, r, B, C, rfl, rfl, q, p⟩ := h
    simp at hj
    subst hj
    obtain ⟨n1, n2, n3⟩ := List.nodup_append.mp nd
    refine ⟨v, B, rfl, q, n1, fun a ha => List.mem_append_left _ ha, fun H' c' B' q' nd' kp ds => ⟨B' ++ C, ?_, List.nodup_append.mpr ⟨nd', n2, fun a ha b hb e => ?_⟩, fun a ha => ?_⟩⟩
    · simp only [List.set_cons_zero, OwnL]
      exact ⟨v, r, B', C, rfl, rfl, q', p.keep fun a ha => kp a (List.mem_append_right _ ha) fun z => n3 a z a ha rfl⟩
    · subst e
      exact n3 a (ds a ha (List.mem_append_right _ hb)) a hb rfl
    · rcases List.mem_append.mp ha with ha | ha
      · exact .inr ha
      · exact .inl ⟨List.mem_append_right _ ha, fun z => n3 a z a ha rfl⟩
  | t :: ts, vs, A, h, nd, j + 1, c, hj => by
    simp only [OwnL] at h
    obtain ⟨v, r, B, C, rfl, rfl, q, p⟩ := h
    obtain ⟨n1, n2, n3⟩ := List.nodup_append.mp nd
    obtain ⟨w, D, e1, q1, nd1, sub, k⟩ := OwnL.focus p n2 (j := j) (c := c) (by simpa using hj)
    refine ⟨w, D, by simpa using e1, q1, nd1, fun a ha => List.mem_append_right _ (sub a ha), fun H' c' B' q' nd' kp ds => ?_⟩
    obtain ⟨A', o', n', s'⟩ := k H' c' B' q' nd' (fun a ha => kp a (List.mem_append_right _ ha)) (fun a ha hc => ds a ha (List.mem_append_right _ hc))
    have apart : ∀ a ∈ B, a ∉ D := fun a ha z => n3 a ha a (sub a z) rfl
    refine ⟨B ++ A', ?_, List.nodup_append.mpr ⟨n1, n', fun a ha b hb e => ?_⟩, fun a ha => ?_⟩
    · simp only [List.set_cons_succ, OwnL]
      exact ⟨v, r, B, A', rfl, rfl, q.keep fun a ha => kp a (List.mem_append_left _ ha) (apart a ha), o'⟩
    · subst e
      rcases s' a hb with z | z
      · exact n3 a ha a z.1 rfl
      · exact apart a ha (ds a z (List.mem_append_left _ ha))
    · rcases List.mem_append.mp ha with ha | ha
      · exact .inl ⟨List.mem_append_left _ ha, apart a ha⟩
      · rcases s' a ha with z | z
        · exact .inl ⟨List.mem_append_right _ z.1, z.2⟩
        · exact .inr z
/-- an owned node: its own place and its children -/
theorem own_node {H : Hp} {t : T} {v : V} {A : List Addr} (h : Own H v t A) {j : Nat} {c : T} (hj : t.kids[j]? = some c) : ∃ a vs hd B, v = .ref a ∧ kidsV H a = vs ∧ A = hd ++ B ∧ OwnL H vs t.kids B ∧ a ∈ hd ∧
    ∀ H' us B', (∀ b ∈ hd, H' b = H b) → OwnL H' vs us B' → us.length = t.kids.length → Own H' v (t.setKids us) (hd ++ B') := by
  cases t with
  | av x => simp [T.kids] at hj
  | rd ts => simp [T.kids] at hj
  | lst ts =>
    simp only [Own] at h
    obtain ⟨a, vs, B, rfl, rfl, e, r⟩ := h
    refine ⟨a, vs, [a], B, rfl, by simp [kidsV, e], rfl, r, by simp, fun H' us B' k o l => ?_⟩
    simp only [T.setKids, Own]
    exact ⟨a, vs, B', rfl, rfl, (k a (by simp)).trans e, o⟩
  | tup ts =>
    simp only [Own] at h
    obtain ⟨a, vs, B, rfl, rfl, e, r⟩ := h
    refine ⟨a, vs, [a], B, rfl, by simp [kidsV, e], rfl, r, by simp, fun H' us B' k o l => ?_⟩
    simp only [T.setKids, Own]
    exact ⟨a, vs, B', rfl, rfl, (k a (by simp)).trans e, o⟩
  | dct ks ts =>
    simp only [Own] at h
    obtain ⟨a, vs, B, rfl, rfl, e, hl, r⟩ := h
    refine ⟨a, vs, [a], B, rfl, by simp only [kidsV, e]; exact List.map_snd_zip (by omega), rfl, r, by simp, fun H' us B' k o l => ?_⟩
    simp only [T.setKids, Own]
    exact ⟨a, vs, B', rfl, rfl, (k a (by simp)).trans e, hl, o⟩
  | dtt ks ts =>
    simp only [Own] at h
    obtain ⟨a, vs, B, rfl, rfl, e, hl, r⟩ := h
    refine ⟨a, vs, [a], B, rfl, by simp only [kidsV, e]; exact List.map_snd_zip (by omega), rfl, r, by simp, fun H' us B' k o l => ?_⟩
    simp only [T.setKids, Own]
    exact ⟨a, vs, B', rfl, rfl, (k a (by simp)).trans e, hl, o⟩
  | obj C ns ts =>
    simp only [Own] at h
    obtain ⟨a, dx, vs, B, rfl, rfl, e, d, hl, r⟩ := h
    refine ⟨a, vs, [a, dx], B, rfl, by simp only [kidsV, e]; exact List.map_snd_zip (by omega), rfl, r, by simp, fun H' us B' k o l => ?_⟩
    simp only [T.setKids, Own]
    exact ⟨a, dx, vs, B', rfl, rfl, (k a (by simp)).trans e, (k dx (by simp)).trans d, hl, o⟩
/-- a place within an owned tree -/
theorem own_at {H : Hp} : ∀ {p : List Nat} {t u : T} {v : V} {A : List Addr}, Own H v t A → A.Nodup → t.at_ p = some u → ∃ w B, ValAt H v p w ∧ Own H w u B ∧ B.Nodup ∧ (∀ a ∈ B, a ∈ A) ∧
    ∀ H' u' B', Own H' w u' B' → B'.Nodup → (∀ a ∈ A, a ∉ B → H' a = H a) → (∀ a ∈ B', a ∈ A → a ∈ B) → ∃ A', Own H' v (t.put p u') A' ∧ A'.Nodup ∧ ∀ a ∈ A', (a ∈ A ∧ a ∉ B) ∨ a ∈ B'
  | [], t, u, v, A, h, nd, e => by
    simp only [T.at_, Option.some.injEq] at e
    subst e
    exact ⟨v, A, rfl, h, nd, fun _ z => z, fun H' u' B' o n _ _ => ⟨B', o, n, fun a ha => .inr ha⟩⟩
  | j :: p, t, u, v, A, h, nd, e => by
    unfold T.at_ at e
    cases hj : t.kids[j]? with
    | none => rw [hj] at e; cases e
    | some c =>
      rw [hj] at e
      obtain ⟨a, vs, hd, B, rfl, kv, rfl, ol, ha, back⟩ := own_node h hj
      obtain ⟨n1, n2, n3⟩ := List.nodup_append.mp nd
      obtain ⟨vc, D, ev, oc, ndc, subc, kc⟩ := ol.focus n2 hj
      obtain ⟨w, E, va, ow, ndw, subw, kw⟩ := own_at oc ndc e
      have apart : ∀ a ∈ hd, a ∉ E := fun a ha z => n3 a ha a (subc a (subw a z)) rfl
      refine ⟨w, E, ⟨a, vc, rfl, by rw [kv]; exact ev, va⟩, ow, ndw, fun a z => List.mem_append_right _ (subc a (subw a z)), fun H' u' B' o n kp ds => ?_⟩
      obtain ⟨A1, o1, nd1, s1⟩ := kw H' u' B' o n (fun a z => kp a (List.mem_append_right _ (subc a z))) (fun a z y => ds a z (List.mem_append_right _ (subc a y)))
      obtain ⟨A2, o2, nd2, s2⟩ := kc H' (c.put p u') A1 o1 nd1 (fun a z y => kp a (List.mem_append_right _ z) fun q => y (subw a q)) (fun a z y => by
        rcases s1 a z with q | q
        · exact q.1
        · exact subw a (ds a q (List.mem_append_right _ y)))
      refine ⟨hd ++ A2, ?_, List.nodup_append.mpr ⟨n1, nd2, fun b hb b' hb' eb => ?_⟩, fun b hb => ?_⟩
      · have := back H' _ A2 (fun b hb => kp b (List.mem_append_left _ hb) (apart b hb)) o2 (by simp)
        unfold T.put
        rw [hj]
        exact this
      · subst eb
        rcases s2 b hb' with z | z
        · exact n3 b hb b z.1 rfl
        · rcases s1 b z with y | y
          · exact n3 b hb b (subc b y.1) rfl
          · exact apart b hb (ds b y (List.mem_append_left _ hb))
      · rcases List.mem_append.mp hb with hb | hb
        · exact .inl ⟨List.mem_append_left _ hb, apart b hb⟩
        · rcases s2 b hb with z | z
          · exact .inl ⟨List.mem_append_right _ z.1, fun q => z.2 (subw b q)⟩
          · rcases s1 b z with y | y
            · exact .inl ⟨List.mem_append_right _ (subc b y.1), y.2⟩
            · exact .inr y
/-- a slot's place, and how it is changed -/
theorem SR.place {K : PySem.W.Frag} {σ : St} {H F : Hp} {A : Addr → Prop} {env : Env} (S : SR K σ H F A env) {i : Nat} {t u : T} {p : List Nat} (e : env[i]? = some (some (true, t))) (ep : t.at_ p = some u) :
    ∃ v w B, σ[i]? = some (some v) ∧ ValAt H v p w ∧ Own H w u B ∧ B.Nodup ∧ (∀ a ∈ B, A a ∧ F a = none) ∧
      ∀ H' u' B' (Cr : List Addr), Own H' w u' B' → B'.Nodup → (∀ a, a ∉ B → H' a = H a) → (∀ a ∈ B, H' a ≠ none) → (∀ a ∈ B', a ∈ B ∨ a ∈ Cr) → (∀ a ∈ Cr, ¬ A a ∧ F a = none ∧ H a ≠ none) →
        SR K σ H' F (fun a => A a ∨ a ∈ Cr) (env.set i (some (true, t.put p u'))) ∧ ∀ H0 F0 A0, Step H0 F0 A0 H F A → (∀ a ∈ Cr, H0 a = none ∨ A0 a) → Step H0 F0 A0 H' F (fun a => A a ∨ a ∈ Cr) := by
  obtain ⟨fh, ah, le, As, h1, h2, h3, h4⟩ := S
  obtain ⟨v, ev, re⟩ := h1 i _ e
  rw [Res.tt] at re
  obtain ⟨w, B, va, ow, nd, sub, k⟩ := own_at re (h2 i) ep
  refine ⟨v, w, B, ev, va, ow, nd, fun a ha => h4 i a (sub a ha), fun H' u' B' Cr o' nd' kp dm inB hCr => ⟨?_, ?_⟩⟩
  · obtain ⟨A', oA, ndA, sA⟩ := k H' u' B' o' nd' (fun a _ hb => kp a hb) (fun a ha hA => by
      rcases inB a ha with z | z
      · exact z
      · exact absurd (h4 i a hA).1 (hCr a z).1)
    have src : ∀ a ∈ A', a ∈ As i ∨ a ∈ Cr := fun a ha => by
      rcases sA a ha with z | z
      · exact .inl z.1
      · rcases inB a z with y | y
        · exact .inl (sub a y)
        · exact .inr y
    have off : ∀ j, j ≠ i → ∀ a ∈ As j, a ∉ B := fun j hj a ha z => h3 j i hj a ha (sub a z)
    refine ⟨fun b o eb => ?_, fun a ha => ?_, by simpa using le, fun j => if j = i then A' else As j, fun j r' e' => ?_, fun j => ?_, fun j l hjl a ha hb => ?_, fun j a ha => ?_⟩
    · rw [kp b fun z => by have := (h4 i b (sub b z)).2; rw [this] at eb; cases eb]
      exact fh b o eb
    · by_cases z : a ∈ B
      · exact dm a z
      · rw [kp a z]
        rcases ha with ha | ha
        · exact ah a ha
        · exact (hCr a ha).2.2
    · by_cases hj : j = i
      · subst hj
        have hl : j < env.length := (List.getElem?_eq_some_iff.mp e).1
        rw [List.getElem?_set_self hl] at e'
        cases e'
        exact ⟨v, ev, by rw [Res.tt]; simpa using oA⟩
      · rw [List.getElem?_set_ne (Ne.symm hj)] at e'
        obtain ⟨w2, e2, q⟩ := h1 j r' e'
        exact ⟨w2, e2, by simpa [hj] using q.go (.refl _) fun a ha => kp a (off j hj a ha)⟩
    · dsimp only
      split
      · exact ndA
      · exact h2 j
    · dsimp only at ha hb
      split at ha
      · rename_i hj
        split at hb
        · rename_i hl
          exact hjl (hj.trans hl.symm)
        · rename_i hl
          rcases src a ha with z | z
          · exact h3 i l (fun q => hl q.symm) a z hb
          · exact (hCr a z).1 (h4 l a hb).1
      · rename_i hj
        split at hb
        · rcases src a hb with z | z
          · exact h3 j i hj a ha z
          · exact (hCr a z).1 (h4 j a ha).1
        · exact h3 j l hjl a ha hb
    · dsimp only at ha
      split at ha
      · rcases src a ha with z | z
        · exact ⟨.inl (h4 i a z).1, (h4 i a z).2⟩
        · exact ⟨.inr z, (hCr a z).2.1⟩
      · exact ⟨.inl (h4 j a ha).1, (h4 j a ha).2⟩
  · intro H0 F0 A0 st hc
    refine ⟨st.ff, fun b o eb n => ?_, fun b eb => ?_, fun b h => h.elim (st.an b) fun z => (hc b z).symm, st.fn⟩
    · have e1 := st.hh b o eb n
      rw [kp b fun z => ?_]
      · exact e1
      · rcases st.an b (h4 i b (sub b z)).1 with y | y
        · exact n y
        · rw [eb] at y; cases y
    · have e1 := st.dom b eb
      by_cases z : b ∈ B
      · exact dm b z
      · rw [kp b z]; exact e1
end Q
end

section
set_option maxRecDepth 100000
/-! Q9: what changes an owned tree: lists, dicts, attributes. -/
namespace Q
open PySem L2

theorem kidsV_same {H H' : Hp} {a : Addr} (s : Same H H') {j : Nat} {u : V} (h : (kidsV H a)[j]? = some u) : (kidsV H' a)[j]? = some u := by
  unfold kidsV at h ⊢
  cases z : H a with
  | none => rw [z] at h; simp at h
  | some o => rw [s a o z]; rw [z] at h; exact h
theorem ValAt.same {H H' : Hp} (s : Same H H') : ∀ {p : List Nat} {v w : V}, ValAt H v p w → ValAt H' v p w
  | [], v, w, h => h
  | j :: p, v, w, h => by
    obtain ⟨a, u, e, h1, h2⟩ := h
    exact ⟨a, u, e, kidsV_same s h1, ValAt.same s h2⟩
theorem ValAt.snoc {H : Hp} {j : Nat} {a : Addr} {x : V} (hx : (kidsV H a)[j]? = some x) : ∀ {p : List Nat} {v : V}, ValAt H v p (.ref a) → ValAt H v (p ++ [j]) x
  | [], v, h => by cases h; exact ⟨a, x, rfl, hx, rfl⟩
  | i :: p, v, h => by
    obtain ⟨b, u, e, h1, h2⟩ := h
    exact ⟨b, u, e, h1, ValAt.snoc hx h2⟩
theorem ValAt.det {H : Hp} : ∀ {p : List Nat} {v w x : V}, ValAt H v p w → ValAt H v p x → w = x
  | [], v, w, x, h, h' => by cases h; exact h'
  | j :: p, v, w, x, h, h' => by
    obtain ⟨a, u, e, h1, h2⟩ := h
    obtain ⟨b, u', e', h1', h2'⟩ := h'
    rw [e] at e'
    cases e'
    rw [h1] at h1'
    cases h1'
    exact ValAt.det h2 h2'
/-! ### a place, as an expression -/
abbrev TP := Env → (Nat → List Nat → Prop) → Prop
def liftP (K : PySem.W.Frag) (π : TP) : TE := fun σ H Rk => ∃ (F : Hp) (A : Addr → Prop) (env : Env) (Q : Nat → List Nat → Prop), SR K σ H F A env ∧ π env Q ∧
  ∀ i p w H', Q i p → Same H H' → (∀ v0, σ[i]? = some (some v0) → ValAt H' v0 p w) → Rk w H'
def QP (X : Cx) (e : Expr) (π : TP) : Prop := PE X e (liftP X.K π)
/-- the owned tree at a place -/
def atE (env : Env) (i : Nat) (p : List Nat) : Option T := match env[i]? with
  | some (some (true, t)) => t.at_ p
  | _ => none
theorem atE_some {env : Env} {i : Nat} {p : List Nat} {u : T} (h : atE env i p = some u) : ∃ t, env[i]? = some (some (true, t)) ∧ t.at_ p = some u := by
  unfold atE at h
  split at h
  · rename_i t e
    exact ⟨t, e, h⟩
  · cases h
/-- the slots with another tree at a place -/
def putE (env : Env) (i : Nat) (p : List Nat) (u : T) : Env := match env[i]? with
  | some (some (true, t)) => env.set i (some (true, t.put p u))
  | _ => env
theorem putE_eq {env : Env} {i : Nat} {p : List Nat} {t u : T} (h : env[i]? = some (some (true, t))) : putE env i p u = env.set i (some (true, t.put p u)) := by
  unfold putE
  rw [h]
def tpSlot (i : Nat) : TP := fun env Q => (∃ t, env[i]? = some (some (true, t))) ∧ Q i []
section
variable {X : Cx} {e o ix value : Expr} {π : TP} {τ τv : TQ} {τs : TQL} {pos pos' tpos : Pos}
theorem qp_slot {i : Nat} (h : PE X e (tVar i)) : QP X e (tpSlot i) := by
  refine weakE h fun σ H Rk ⟨F, A, env, Q, S, h, k⟩ => ?_
  obtain ⟨⟨t, e⟩, q⟩ := h
  obtain ⟨As, h1, _⟩ := id S.sl
  obtain ⟨v, e1, _⟩ := h1 i _ e
  exact ⟨v, e1, k i [] v H q (.refl _) fun v0 e0 => by rw [e1] at e0; cases e0; rfl⟩
theorem at_snoc : ∀ {p : List Nat} {t u c : T} {j : Nat}, t.at_ p = some u → u.kids[j]? = some c → t.at_ (p ++ [j]) = some c
  | [], t, u, c, j, h, hj => by
    simp only [T.at_, Option.some.injEq] at h
    subst h
    simp [T.at_, hj]
  | i :: p, t, u, c, j, h, hj => by
    simp only [List.cons_append]
    unfold T.at_ at h ⊢
    cases z : t.kids[i]? with
    | none => rw [z] at h; cases h
    | some d => rw [z] at h; exact at_snoc h hj
/-- what a place's value is -/
theorem place_val {K : PySem.W.Frag} {σ : St} {H F : Hp} {A : Addr → Prop} {env : Env} (S : SR K σ H F A env) {i : Nat} {p : List Nat} {u : T} (h : atE env i p = some u) :
    ∃ v w B, σ[i]? = some (some v) ∧ ValAt H v p w ∧ Own H w u B := by
  obtain ⟨t, e, ep⟩ := atE_some h
  obtain ⟨v, w, B, ev, va, ow, _⟩ := S.place e ep
  exact ⟨v, w, B, ev, va, ow⟩
def fidx (f : Str) : List Str → Option Nat
  | [] => none
  | n :: ns => if f = n then some 0 else (fidx f ns).map (· + 1)
theorem fidx_lookup {f : Str} : ∀ {ns : List Str} {vs : List V} {j : Nat} {v : V}, fidx f ns = some j → vs[j]? = some v → (ns.zip vs).lookup f = some v
  | [], vs, j, v, h, _ => by simp [fidx] at h
  | n :: ns, [], j, v, h, hv => by simp at hv
  | n :: ns, w :: vs, j, v, h, hv => by
    unfold fidx at h
    rw [List.zip_cons_cons, List.lookup_cons]
    split at h
    · rename_i e
      cases h
      simp only [List.getElem?_cons_zero, Option.some.injEq] at hv
      rw [beq_iff_eq.mpr e, hv]
    · rename_i e
      cases z : fidx f ns with
      | none => rw [z] at h; cases h
      | some j' =>
        rw [z] at h
        cases h
        rw [beq_eq_false_iff_ne.mpr e]
        exact fidx_lookup z (by simpa using hv)
theorem fidx_lt {f : Str} : ∀ {ns : List Str} {j : Nat}, fidx f ns = some j → j < ns.length
  | [], j, h => by simp [fidx] at h
  | n :: ns, j, h => by
    unfold fidx at h
    split at h
    · cases h; simp
    · cases z : fidx f ns with
      | none => rw [z] at h; cases h
      | some j' => rw [z] at h; cases h; have := fidx_lt z; simp; omega
/-- e.f of a tree -/
def fget (f : Str) (ns : List Str) (ts : List T) : Option T := (fidx f ns).bind (ts[·]?)
def roFld (C : Addr) (f : Str) : T → RK → Prop := fun t Q => ∃ ns ts r, t = .obj C ns ts ∧ fget f ns ts = some r ∧ Q (false, r)
theorem q_fld {C : Addr} {f : Str} (ho : QE X o τ) (c : Cls X.K C) (n : NoAttr X.K C f) (hb : attributeBase o f X.env (eval o X.env) = eval o X.env := by rfl) : QE X (.Attribute o f pos) (tq1 (roFld C f) τ) := by
  refine weakE (pe_fld ho hb) fun σ H Rk ⟨F, A, env, Q, S, h, k⟩ => ?_
  refine lift_sh S h fun r e1 v H1 F1 A1 q S1 st1 re => ?_
  obtain ⟨nms, ts, w, er, ef, q⟩ := q
  rw [er] at re
  simp only [Rep] at re
  obtain ⟨a, dx, vs, rfl, ha, hl, rl⟩ := re
  unfold fget at ef
  cases z : fidx f nms with
  | none => rw [z] at ef; cases ef
  | some j =>
    rw [z] at ef
    obtain ⟨x, ex, rx⟩ := rl.get ef
    exact ⟨a, C, dx, _, x, rfl, S1.fh _ _ ha, c, n, fidx_lookup z ex, k _ _ _ _ q ((Out.of S1 .refl rx).after st1)⟩
/-- .. as a place -/
def tpFld (π : TP) (C : Addr) (f : Str) : TP := fun env Q => π env fun i p => ∃ ns ts j, atE env i p = some (.obj C ns ts) ∧ fidx f ns = some j ∧ j < ts.length ∧ Q i (p ++ [j])
theorem qp_fld {C : Addr} {f : Str} (ho : QP X o π) (c : Cls X.K C) (n : NoAttr X.K C f) (hb : attributeBase o f X.env (eval o X.env) = eval o X.env := by rfl) : QP X (.Attribute o f pos) (tpFld π C f) := by
  refine weakE (pe_fld ho hb) fun σ H Rk ⟨F, A, env, Q, S, h, k⟩ => ?_
  refine ⟨F, A, env, _, S, h, fun i p w H' q sm va => ?_⟩
  obtain ⟨nms, ts, j, ea, ej, hj, q⟩ := q
  obtain ⟨v, w', B, ev, va', ow⟩ := place_val (S.same sm) ea
  cases (va v ev).det va'
  simp only [Own] at ow
  obtain ⟨a, dx, vs, B', rfl, rfl, ha, _, hl, ol⟩ := ow
  have hjv : j < vs.length := by rw [ol.length]; exact hj
  have ex := List.getElem?_eq_getElem hjv
  refine ⟨a, C, dx, _, vs[j], rfl, ha, c, n, fidx_lookup ej ex, k i _ _ _ q sm fun v0 e0 => ?_⟩
  rw [ev] at e0
  cases e0
  exact va'.snoc (by simp only [kidsV, ha]; rw [List.map_snd_zip (by omega)]; exact ex)
/-- e[i] of a list, as a place: i is quiet -/
def tpIx (π : TP) (τ : TQ) : TP := fun env Q => π env fun i p => τ (frzE env) fun r _ => ∃ ts k j, atE env i p = some (.lst ts) ∧ r.2 = .int k ∧ ixN ts.length k = some j ∧ Q i (p ++ [j])
theorem qp_ix (ho : QP X o π) (hi : QE X ix τ) (hs : PlainIx ix := by exact fun _ _ => rfl) : QP X (.Subscript o ix pos) (tpIx π τ) := by
  refine weakE (pe_ix ix_list ho hi hs) fun σ H Rk ⟨F, A, env, Q, S, h, k⟩ => ?_
  refine ⟨F, A, env, _, S, h, fun i p w H' q sm va => ?_⟩
  have S' := S.same sm
  refine lift_sh S'.full q fun r e1 y H1 F1 A1 q1 S1 st1 re => ?_
  obtain ⟨ts, kk, j, ea, er, ej, q1⟩ := q1
  have sm1 := step_full st1
  obtain ⟨v, w', B, ev, va', ow⟩ := place_val (S'.same sm1) ea
  cases ((va v ev).same sm1).det va'
  simp only [Own] at ow
  obtain ⟨a, vs, B', rfl, rfl, ha, ol⟩ := ow
  have hjv : j < vs.length := by rw [ol.length]; exact (ixN_seq ej).2.1
  have ex := List.getElem?_eq_getElem hjv
  rw [er] at re
  refine ⟨a, vs, kk, vs[j], rfl, Rep.av_eq re, .of ha, by unfold atI; rw [ol.length, ej]; exact ex, k i _ _ _ q1 (sm.trans sm1) fun v0 e0 => ?_⟩
  rw [ev] at e0
  cases e0
  exact va'.snoc (by simp only [kidsV, ha]; exact ex)
/-- d[k] of a dict, as a place: k is quiet -/
def kidx (k : Key) : List Key → Option Nat
  | [] => none
  | k' :: ks => if k' = k then some 0 else (kidx k ks).map (· + 1)
theorem kidx_lt {k : Key} : ∀ {ks : List Key} {j : Nat}, kidx k ks = some j → j < ks.length
  | [], j, h => by simp [kidx] at h
  | n :: ns, j, h => by
    unfold kidx at h
    split at h
    · cases h; simp
    · cases z : kidx k ns with
      | none => rw [z] at h; cases h
      | some j' => rw [z] at h; cases h; have := kidx_lt z; simp; omega
theorem kidx_val {k : Key} : ∀ {ks : List Key} {vs : List V} {j : Nat} {v : V}, kidx k ks = some j → vs[j]? = some v → valV (ks.zip vs) k = some v
  | [], vs, j, v, h, _ => by simp [kidx] at h
  | n :: ns, [], j, v, h, hv => by simp at hv
  | n :: ns, w :: vs, j, v, h, hv => by
    unfold kidx at h
    rw [List.zip_cons_cons]
    split at h
    · rename_i e
      cases h
      simp only [List.getElem?_cons_zero, Option.some.injEq] at hv
      rw [valV_pos (by exact e), hv]
    · rename_i e
      cases z : kidx k ns with
      | none => rw [z] at h; cases h
      | some j' =>
        rw [z] at h
        cases h
        rw [valV_neg (by exact e)]
        exact kidx_val z (by simpa using hv)
def tpDk (π : TP) (τ : TQ) : TP := fun env Q => π env fun i p => τ (frzE env) fun r _ => ∃ ks ts k j, atE env i p = some (.dct ks ts) ∧ r.2.key? = some k ∧ kidx k ks = some j ∧ j < ts.length ∧ Q i (p ++ [j])
theorem qp_dk (hu : X.A.units + 1 < cLine) (ho : QP X o π) (hi : QE X ix τ) (hs : NoSl ix := by exact fun _ _ => rfl) : QP X (.Subscript o ix pos) (tpDk π τ) := by
  refine weakE (pe_dget hu ho hi hs) fun σ H Rk ⟨F, A, env, Q, S, h, k⟩ => ?_
  refine ⟨F, A, env, _, S, h, fun i p w H' q sm va => ?_⟩
  have S' := S.same sm
  refine lift_sh S'.full q fun r e1 y H1 F1 A1 q1 S1 st1 re => ?_
  obtain ⟨ks, ts, kk, j, ea, er, ej, hj, q1⟩ := q1
  have sm1 := step_full st1
  obtain ⟨v, w', B, ev, va', ow⟩ := place_val (S'.same sm1) ea
  cases ((va v ev).same sm1).det va'
  simp only [Own] at ow
  obtain ⟨a, vs, B', rfl, rfl, ha, hl, ol⟩ := ow
  have hjv : j < vs.length := by rw [ol.length]; exact hj
  have ex := List.getElem?_eq_getElem hjv
  rw [key_some er] at re
  refine ⟨a, vs[j], rfl, .inl ⟨_, kk, .inl ha, Rep.av_eq re, (kidx_val ej ex).symm⟩, k i _ _ _ q1 (sm.trans sm1) fun v0 e0 => ?_⟩
  rw [ev] at e0
  cases e0
  exact va'.snoc (by simp only [kidsV, ha]; rw [List.map_snd_zip (by omega)]; exact ex)

/-! ### lists changed in place -/
/-- what a method of a list does to owned items: the items, the arguments, the items behind, the (scalar) result -/
def LOp (r : V → List V → Hp → VK → Prop) (μ : List T → List T → (List T → V → Prop) → Prop) : Prop :=
  ∀ (H : Hp) (l : Addr) (vs : List V) (ts : List T) (B : List Addr) (us : List V) (as : List T) (C : List Addr) (Rk : VK) (Q : List T → V → Prop), H l = some (.lst vs) → OwnL H vs ts B → OwnL H us as C → (B ++ C).Nodup → μ ts as Q →
    (∀ ts' x vs' B', Q ts' x → OwnL H vs' ts' B' → B'.Nodup → (∀ a ∈ B', a ∈ B ∨ a ∈ C) → Rk x (upd H l (.lst vs'))) → r (.ref l) us H Rk
/-- arguments that are all owned or scalars -/
def okVals : List Arg → Option (List R)
  | [] => some []
  | .val r :: as => if okO r = true then (okVals as).map (r :: ·) else none
  | .slot _ :: _ => none
theorem okVals_some : ∀ {as : List Arg} {rs : List R}, okVals as = some rs → as = rs.map Arg.val ∧ rs.all okO = true
  | [], rs, h => by cases h; exact ⟨rfl, rfl⟩
  | .val r :: as, rs, h => by
    unfold okVals at h
    split at h
    · rename_i ho
      cases z : okVals as with
      | none => rw [z] at h; cases h
      | some rs' =>
        rw [z] at h
        cases h
        obtain ⟨h1, h2⟩ := okVals_some z
        exact ⟨by simp [h1], by simp [ho, h2]⟩
    · cases h
  | .slot _ :: _, rs, h => by cases h
def tqLop (π : TP) (τs : TQL) (μ : List T → List T → (List T → V → Prop) → Prop) : TQ := fun env Q => π env fun i p => ∃ ts, atE env i p = some (.lst ts) ∧ τs (frzE env) fun as _ => ∃ rs, okVals as = some rs ∧ μ ts (rs.map (·.2)) fun ts' x => Q (false, .av x) (putE env i p (.lst ts'))
theorem lop_read {r : V → List V → Hp → VK → Prop} {μ : List T → List T → (List T → V → Prop) → Prop} (b : LOp r μ) {σ : St} {H : Hp} {Rk : VK} (h : lift X.K (tqLop π τs μ) σ H Rk) :
    liftP X.K π σ H fun x H1 => tyV X.K "list" x H1 ∧ liftL X.K τs σ H1 fun us H2 => r x us H2 Rk := by
  obtain ⟨F, A, env, Q, S, h, k⟩ := h
  refine ⟨F, A, env, _, S, h, fun i p w H' q sm va => ?_⟩
  have S' := S.same sm
  obtain ⟨ts, ea, q⟩ := q
  obtain ⟨v0, w0, B0, ev0, va0, ow0⟩ := place_val S' ea
  cases (va v0 ev0).det va0
  simp only [Own] at ow0
  obtain ⟨a, vs0, B0', rfl, _, ha0, _⟩ := ow0
  refine ⟨.inl ⟨rfl, vs0, .of ha0⟩, lift_args S'.full q fun as e1 us H1 q1 O => ?_⟩
  obtain ⟨rs, eo, q1⟩ := q1
  obtain ⟨F1, A1, C, S1, st1, ar, ndC, frC⟩ := O
  obtain ⟨rfl, hall⟩ := okVals_some eo
  have sm1 := step_full st1
  have frC : ∀ a ∈ C, H' a = none := fun a ha => (frC a ha).1.elim id False.elim
  have S2 := S'.same sm1
  obtain ⟨t, et, ep⟩ := atE_some ea
  obtain ⟨v, w', B, ev, va', ow, ndB, subB, kk⟩ := S2.place et ep
  have hw : w' = .ref a := (((va v ev).same sm1).det va').symm
  subst hw
  simp only [Own] at ow
  obtain ⟨a', vs, B', ea', rfl, ha, ol⟩ := ow
  cases ea'
  have oc := ar.own hall
  obtain ⟨na, nB'⟩ := List.nodup_cons.mp ndB
  have dBC : ∀ b ∈ a :: B', b ∉ C := fun b hb hc => by
    have h1 := (subB b hb).1
    exact S'.ah b h1 (frC b hc)
  refine b H1 a vs ts B' us _ C Rk _ ha ol oc (List.nodup_append.mpr ⟨nB', ndC, fun x hx y hy e => ?_⟩) q1 fun ts' x vs' D q2 od ndD inD => ?_
  · subst e; exact dBC x (List.mem_cons_of_mem _ hx) hy
  have hD : a ∉ D := fun z => by
    rcases inD a z with y | y
    · exact na y
    · exact dBC a (List.mem_cons_self) y
  obtain ⟨SR', st'⟩ := kk (upd H1 a (.lst vs')) (.lst ts') (a :: D) C (by
      simp only [Own]
      exact ⟨a, vs', D, rfl, rfl, upd_same, od.keep fun b hb => upd_ne fun (z : b = a) => hD (by rw [← z]; exact hb)⟩) (List.nodup_cons.mpr ⟨hD, ndD⟩) (fun b hb => upd_ne fun z => hb (by rw [z]; exact List.mem_cons_self)) (fun b hb => by
      by_cases z : b = a
      · rw [z, upd_same]; simp
      · rw [upd_ne z]; exact S2.ah b (subB b hb).1) (fun b hb => by
      rcases List.mem_cons.mp hb with rfl | hb
      · exact .inl List.mem_cons_self
      · rcases inD b hb with y | y
        · exact .inl (List.mem_cons_of_mem _ y)
        · exact .inr y) (fun b hb => ⟨fun z => S'.ah b z (frC b hb), S'.fnone (frC b hb), ar.there b hb⟩)
  rw [← putE_eq et] at SR'
  have st2 := st' H F A (.same (sm.trans sm1)) (fun b hb => by
    cases z : H b with
    | none => exact .inl rfl
    | some o => have := frC b hb; rw [sm b o z] at this; cases this)
  exact k _ _ _ _ q2 (Out.av SR' st2)
theorem q_lop {id : String} {name : Str} {r : V → List V → Hp → VK → Prop} {μ : List T → List T → (List T → V → Prop) → Prop} {e1 : Expr} {es : List Expr} {apos cpos : Pos} (slot : Slot "list" name id) (hty : typeOf (.builtin id) = pure (.type "method_descriptor")) (hm : MtR X id r) (b : LOp r μ) (ho : QP X o π) (ha : QA X (e1 :: es) τs)
    (hbase : attributeBase o name X.env (eval o X.env) = eval o X.env := by rfl)
    (hfew : ((backTo cpos (starEach (e1 :: es) X.env)).all (fun x => !x.1) && (backToKw cpos (keywordEach [] X.env)).all (fun x => x.1.isSome)
      && decide ((e1 :: es).length + ([] : List Keyword).length + (if ([] : List Keyword).isEmpty then 0 else 1) < 30)) = true := by rfl)
    (hline : (apos.endLine == cpos.line) = true := by rfl) (hs : starEach (e1 :: es) X.env = (false, eval e1 X.env) :: starEach es X.env := by rfl) (hplain : (backTo cpos (starEach es X.env)).any (·.1) = false := by rfl) :
    QE X (.Call (.Attribute o name apos) (e1 :: es) [] cpos) (tqLop π τs μ) :=
  weakE (pe_bm PySem.F.plainAttrs_list slot hty hm ho ha hbase hfew hline hs hplain) fun _ _ _ h => lop_read b h
theorem q_lop0 {id : String} {name : Str} {r : V → List V → Hp → VK → Prop} {μ : List T → List T → (List T → V → Prop) → Prop} {apos cpos : Pos} (slot : Slot "list" name id) (hty : typeOf (.builtin id) = pure (.type "method_descriptor")) (hm : MtR X id r) (b : LOp r μ) (ho : QP X o π)
    (hbase : attributeBase o name X.env (eval o X.env) = eval o X.env := by rfl) (hline : (apos.endLine == cpos.line) = true := by rfl) :
    QE X (.Call (.Attribute o name apos) [] [] cpos) (tqLop π tqNil μ) := by
  refine weakE (pe_bm0 PySem.F.plainAttrs_list slot hty hm ho hbase hline) fun σ H Rk h => ?_
  obtain ⟨F, A, env, Q, S, h, k⟩ := lop_read (τs := tqNil) b h
  refine ⟨F, A, env, Q, S, h, fun i p w H' q sm va => ?_⟩
  obtain ⟨ty, h2⟩ := k i p w H' q sm va
  refine ⟨ty, ?_⟩
  obtain ⟨F2, A2, env2, Q2, S2, q2, k2⟩ := h2
  exact k2 [] _ [] H' q2 ⟨F2, A2, [], S2, .refl, ⟨rfl, rfl⟩, List.nodup_nil, by simp⟩
end
/-! the methods -/
theorem OwnL.append {H : Hp} : ∀ {ts us : List T} {vs ws : List V} {B C : List Addr}, OwnL H vs ts B → OwnL H ws us C → OwnL H (vs ++ ws) (ts ++ us) (B ++ C)
  | [], us, vs, ws, B, C, h, h' => by simp only [OwnL] at h; obtain ⟨rfl, rfl⟩ := h; simpa using h'
  | t :: ts, us, vs, ws, B, C, h, h' => by
    simp only [OwnL] at h
    obtain ⟨v, r, B1, B2, rfl, rfl, q, p⟩ := h
    simp only [List.cons_append, OwnL]
    exact ⟨v, r ++ ws, B1, B2 ++ C, rfl, by simp, q, OwnL.append p h'⟩
def muAppend : List T → List T → (List T → V → Prop) → Prop := fun ts as Q => ∃ t, as = [t] ∧ ts.length ≤ 1000000 ∧ Q (ts ++ [t]) .non
theorem lop_append : LOp rAppend muAppend := by
  intro H l vs ts B us as C Rk Q hl ol oc nd h k
  obtain ⟨t, rfl, hn, q⟩ := h
  have e := oc.length
  cases us with
  | nil => simp at e
  | cons u r =>
    cases r with
    | cons _ _ => simp at e
    | nil => exact ⟨l, vs, u, rfl, rfl, hl, big_line (by rw [ol.length]; exact hn), k _ _ _ _ q (ol.append oc) nd fun a ha => List.mem_append.mp ha⟩
/-- the items without one -/
theorem OwnL.erase {H : Hp} : ∀ {ts : List T} {vs : List V} {B : List Addr} {j : Nat} {t : T}, OwnL H vs ts B → ts[j]? = some t → ∃ v C D, vs[j]? = some v ∧ Own H v t C ∧ OwnL H (vs.eraseIdx j) (ts.eraseIdx j) D ∧ (B.Nodup → D.Nodup) ∧ ∀ a ∈ D, a ∈ B
  | [], vs, B, j, t, h, hj => by simp at hj
  | t' :: ts, vs, B, 0, t, h, hj => by
    simp only [OwnL] at h
    obtain ⟨v, r, B1, B2, rfl, rfl, q, p⟩ := h
    simp at hj
    subst hj
    exact ⟨v, B1, B2, rfl, q, by simpa using p, fun n => (List.nodup_append.mp n).2.1, fun a ha => List.mem_append_right _ ha⟩
  | t' :: ts, vs, B, j + 1, t, h, hj => by
    simp only [OwnL] at h
    obtain ⟨v, r, B1, B2, rfl, rfl, q, p⟩ := h
    obtain ⟨w, C, D, e1, o1, o2, n2, s2⟩ := OwnL.erase p (j := j) (t := t) (by simpa using hj)
    refine ⟨w, C, B1 ++ D, by simpa using e1, o1, ?_, fun n => ?_, fun a ha => ?_⟩
    · simp only [List.eraseIdx_cons_succ, OwnL]
      exact ⟨v, _, B1, D, rfl, rfl, q, o2⟩
    · obtain ⟨n1, n2', n3⟩ := List.nodup_append.mp n
      exact List.nodup_append.mpr ⟨n1, n2 n2', fun a ha b hb e => n3 a ha b (s2 b hb) e⟩
    · rcases List.mem_append.mp ha with ha | ha
      · exact List.mem_append_left _ ha
      · exact List.mem_append_right _ (s2 a ha)
def muPopAt : List T → List T → (List T → V → Prop) → Prop := fun ts as Q => ∃ i j x, as = [.int i] ∧ -(2 ^ 63) ≤ i ∧ i < 2 ^ 63 ∧ ixN ts.length i = some j ∧ ts[j]? = some (.av x) ∧ Q (ts.eraseIdx j) x
theorem lop_popAt : LOp rPopAt muPopAt := by
  intro H l vs ts B us as C Rk Q hl ol oc nd h k
  obtain ⟨i, j, x, rfl, h1, h2, hj, hx, q⟩ := h
  simp only [OwnL, Own] at oc
  obtain ⟨u, r, B1, B2, rfl, rfl, ⟨rfl, rfl⟩, rfl, rfl⟩ := oc
  obtain ⟨v, C, D, ev, ov, od, nD, sD⟩ := ol.erase hx
  simp only [Own] at ov
  obtain ⟨rfl, rfl⟩ := ov
  simp only [List.append_nil] at nd
  exact ⟨l, vs, i, j, _, rfl, rfl, hl, h1, h2, by rw [ol.length]; exact (ixN_seq hj).1, ev, k _ _ _ _ q od (nD nd) fun a ha => .inl (sD a ha)⟩
def muPop : List T → List T → (List T → V → Prop) → Prop := fun ts as Q => ∃ x, as = [] ∧ ts[ts.length - 1]? = some (.av x) ∧ Q ts.dropLast x
theorem lop_pop : LOp rPop muPop := by
  intro H l vs ts B us as C Rk Q hl ol oc nd h k
  obtain ⟨x, rfl, hx, q⟩ := h
  simp only [OwnL] at oc
  obtain ⟨rfl, rfl⟩ := oc
  obtain ⟨v, C, D, ev, ov, od, nD, sD⟩ := ol.erase hx
  simp only [Own] at ov
  obtain ⟨rfl, rfl⟩ := ov
  simp only [List.append_nil] at nd
  have dl : ∀ {α : Type} (l : List α), l.eraseIdx (l.length - 1) = l.dropLast := fun l => List.eraseIdx_length_sub_one
  rw [dl, show ts.length - 1 = vs.length - 1 by rw [ol.length], dl] at od
  exact ⟨l, vs, _, rfl, rfl, hl, by rw [ol.length]; exact ev, k _ _ _ _ q od (nD nd) fun a ha => .inl (sD a ha)⟩
end Q
end

section
set_option maxRecDepth 100000
/-! Q10: stores into owned trees. -/
namespace Q
open PySem L2

theorem SR.put {K : PySem.W.Frag} {σ : St} {H F : Hp} {A : Addr → Prop} {env : Env} (S : SR K σ H F A env) {i : Nat} {p : List Nat} {u : T} (ea : atE env i p = some u) :
    ∃ v w B, σ[i]? = some (some v) ∧ ValAt H v p w ∧ Own H w u B ∧ B.Nodup ∧ (∀ b ∈ B, A b) ∧ ∀ a o u' B' (Cr : List Addr), a ∈ B → Own (upd H a o) w u' B' → B'.Nodup → (∀ b ∈ B', b ∈ B ∨ b ∈ Cr) → (∀ b ∈ Cr, ¬ A b ∧ F b = none ∧ H b ≠ none) →
      SR K σ (upd H a o) F (fun b => A b ∨ b ∈ Cr) (putE env i p u') ∧ ∀ H0 F0 A0, Step H0 F0 A0 H F A → (∀ b ∈ Cr, H0 b = none ∨ A0 b) → Step H0 F0 A0 (upd H a o) F (fun b => A b ∨ b ∈ Cr) := by
  obtain ⟨t, et, ep⟩ := atE_some ea
  obtain ⟨v, w, B, ev, va, ow, nd, sub, k⟩ := S.place et ep
  refine ⟨v, w, B, ev, va, ow, nd, fun b hb => (sub b hb).1, fun a o u' B' Cr ha o' nd' inB hC => ?_⟩
  rw [putE_eq et]
  exact k (upd H a o) u' B' Cr o' nd' (fun b hb => upd_ne fun z => hb (by rw [z]; exact ha)) (fun b hb => by
    by_cases z : b = a
    · rw [z, upd_same]; simp
    · rw [upd_ne z]; exact S.ah b (sub b hb).1) inB hC
/-- one item stored -/
theorem OwnL.setV {H : Hp} {v' : V} {c' : T} {C : List Addr} (o : Own H v' c' C) (ndC : C.Nodup) : ∀ {ts : List T} {vs : List V} {A : List Addr} {j : Nat}, OwnL H vs ts A → A.Nodup → (∀ a ∈ C, a ∉ A) → j < ts.length → ∃ D, OwnL H (vs.set j v') (ts.set j c') D ∧ D.Nodup ∧ ∀ a ∈ D, a ∈ A ∨ a ∈ C
  | [], vs, A, j, h, _, _, hj => by simp at hj
  | t :: ts, vs, A, 0, h, nd, ds, hj => by
    simp only [OwnL] at h
    obtain ⟨v, r, B1, B2, rfl, rfl, q, p⟩ := h
    obtain ⟨n1, n2, n3⟩ := List.nodup_append.mp nd
    refine ⟨C ++ B2, ?_, List.nodup_append.mpr ⟨ndC, n2, fun a ha b hb e => ?_⟩, fun a ha => ?_⟩
    · simp only [List.set_cons_zero, OwnL]
      exact ⟨v', r, C, B2, rfl, rfl, o, p⟩
    · subst e; exact ds a ha (List.mem_append_right _ hb)
    · rcases List.mem_append.mp ha with ha | ha
      · exact .inr ha
      · exact .inl (List.mem_append_right _ ha)
  | t :: ts, vs, A, j + 1, h, nd, ds, hj => by
    simp only [OwnL] at h
    obtain ⟨v, r, B1, B2, rfl, rfl, q, p⟩ := h
    obtain ⟨n1, n2, n3⟩ := List.nodup_append.mp nd
    obtain ⟨D, o1, nD, sD⟩ := OwnL.setV o ndC p n2 (fun a ha hb => ds a ha (List.mem_append_right _ hb)) (j := j) (by simpa using hj)
    refine ⟨B1 ++ D, ?_, List.nodup_append.mpr ⟨n1, nD, fun a ha b hb e => ?_⟩, fun a ha => ?_⟩
    · simp only [List.set_cons_succ, OwnL]
      exact ⟨v, _, B1, D, rfl, rfl, q, o1⟩
    · subst e
      rcases sD a hb with z | z
      · exact n3 a ha a z rfl
      · exact ds a z (List.mem_append_left _ ha)
    · rcases List.mem_append.mp ha with ha | ha
      · exact .inl (List.mem_append_left _ ha)
      · rcases sD a ha with z | z
        · exact .inl (List.mem_append_right _ z)
        · exact .inr z
theorem Res.own {K : PySem.W.Frag} {F H : Hp} {r : R} {v : V} {A : List Addr} (h : Res K F H r v A) (o : okO r = true) : Own H v r.2 A := by
  obtain ⟨b, t⟩ := r
  cases b with
  | true => rw [Res.tt] at h; exact h
  | false =>
    cases t with
    | av x => obtain ⟨rfl, rfl⟩ := Res.av h; simp [Own]
    | _ => cases o
section
variable {X : Cx} {e o ix value : Expr} {π : TP} {τ τv τk : TQ} {pos pos' tpos : Pos} {pn : List Nat}
/-! ### l[i] = e -/
def sqIxSet (τv : TQ) (π : TP) (τk : TQ) : TSQ := fun D env => τv env fun r e1 => okO r = true ∧ π e1 fun i p => τk (frzE e1) fun rk _ => ∃ ts k j, atE e1 i p = some (.lst ts) ∧ rk.2 = .int k ∧ ixN ts.length k = some j ∧ D.nx (putE e1 i p (.lst (ts.set j r.2)))
theorem qs_ixset (hv : QE X value τv) (ho : QP X o π) (hi : QE X ix τk)
    (ha : ∀ v, assign (.Subscript o ix tpos) X.env v = (do
      let ov ← holding [v] (eval o X.env)
      let iv ← holding [v, ov] (eval ix X.env)
      standAt tpos
      holding [v, ov, iv] (setItem ov iv v)
      release [v, ov, iv] []) := by intro _; rfl) (hs : swapsWithSole [.Subscript o ix tpos] value pos.line X.env = pure false := by rfl) (hw : swappedStores [.Subscript o ix tpos] value X.env = pure none := by rfl)
    (h1 : (assignEach [.Subscript o ix tpos] X.env).map (·.2) = [assign (.Subscript o ix tpos) X.env] := by rfl) : QS X pn (.Assign [.Subscript o ix tpos] value pos) (sqIxSet τv π τk) := by
  refine weakS (ps_asg hv (pg_sub ho hi set_list ha) hs hw h1) fun D σ H ⟨F, A, env, E, S, h, ad⟩ => ?_
  refine lift_own S h fun r e1 v H1 q ⟨F1, A1, Ar, S1, st1, re, nd, fr⟩ => ?_
  obtain ⟨ho, q⟩ := q
  refine ⟨F1, A1, e1, _, S1, q, fun i p w H2 q2 sm va => ?_⟩
  have S2 := S1.same sm
  refine lift_sh S2.full q2 fun rk e3 y H3 F3 A3 q3 S3 st3 r3 => ?_
  obtain ⟨ts, k, j, ea, ek, ej, q3⟩ := q3
  have sm3 := step_full st3
  have S4 := S2.same sm3
  obtain ⟨v0, w0, B, ev, va0, ow, ndB, subB, kk⟩ := S4.put ea
  have hw0 : w0 = w := (((va v0 ev).same sm3).det va0).symm
  subst hw0
  simp only [Own] at ow
  obtain ⟨a, vs, B', rfl, rfl, ha, ol⟩ := ow
  rw [ek] at r3
  have smA := sm.trans sm3
  have ow1 : Own H3 v r.2 Ar := (re.own ho).keep fun b hb => by
    cases z : H1 b with
    | none => exact absurd z (re.there b hb)
    | some o => exact smA b o z
  obtain ⟨na, nB'⟩ := List.nodup_cons.mp ndB
  have dA : ∀ b ∈ Ar, b ∉ a :: B' := fun b hb hc => (fr b hb).2.1 (subB b hc)
  obtain ⟨D', oD, nD, sD⟩ := OwnL.setV ow1 nd ol nB' (fun b hb hc => dA b hb (List.mem_cons_of_mem _ hc)) (ixN_seq ej).2.1
  have hD : a ∉ D' := fun z => by
    rcases sD a z with y | y
    · exact na y
    · exact dA a y List.mem_cons_self
  obtain ⟨SR', st'⟩ := kk a (.lst (vs.set j v)) (.lst (ts.set j r.2)) (a :: D') Ar List.mem_cons_self (by
      simp only [Own]
      exact ⟨a, _, D', rfl, rfl, upd_same, oD.keep fun b hb => upd_ne fun (z : b = a) => hD (by rw [← z]; exact hb)⟩) (List.nodup_cons.mpr ⟨hD, nD⟩) (fun b hb => by
      rcases List.mem_cons.mp hb with rfl | hb
      · exact .inl List.mem_cons_self
      · rcases sD b hb with y | y
        · exact .inl (List.mem_cons_of_mem _ y)
        · exact .inr y) (fun b hb => ⟨(fr b hb).2.1, (fr b hb).2.2, ow1.there b hb⟩)
  refine ⟨a, vs, k, j, rfl, Rep.av_eq r3, ha, by rw [ol.length]; exact ej, ad.nx _ _ _ q3 ⟨F1, _, SR', st' H F A (st1.trans (.same smA)) (fun b hb => (fr b hb).1), .refl⟩⟩

/-! ### d[k] = e -/
def dput (ks : List Key) (ts : List T) (k : Key) (r : T) : T := match kidx k ks with
  | some j => .dct ks (ts.set j r)
  | none => .dct (ks ++ [k]) (ts ++ [r])
theorem kidx_none {k : Key} : ∀ {ks : List Key}, kidx k ks = none → k ∉ ks
  | [], _ => by simp
  | k' :: ks, h => by
    unfold kidx at h
    split at h
    · cases h
    · rename_i e
      cases z : kidx k ks with
      | none => simp only [List.mem_cons, not_or]; exact ⟨fun q => e q.symm, kidx_none z⟩
      | some j => rw [z] at h; cases h
theorem valV_none {k : Key} : ∀ {ks : List Key} {vs : List V}, k ∉ ks → valV (ks.zip vs) k = none
  | [], vs, _ => rfl
  | k' :: ks, [], _ => rfl
  | k' :: ks, v :: vs, h => by
    simp only [List.mem_cons, not_or] at h
    rw [List.zip_cons_cons, valV_neg (by exact fun z => h.1 z.symm)]
    exact valV_none h.2
theorem kidx_get {k : Key} : ∀ {ks : List Key} {j : Nat}, kidx k ks = some j → ks[j]? = some k
  | [], j, h => by simp [kidx] at h
  | k' :: ks, j, h => by
    unfold kidx at h
    split at h
    · rename_i e; cases h; simp [e]
    · cases z : kidx k ks with
      | none => rw [z] at h; cases h
      | some j' => rw [z] at h; cases h; simpa using kidx_get z
theorem putK_set {k : Key} {v : V} {ks : List Key} {vs : List V} {j : Nat} (hj : kidx k ks = some j) (nd : ks.Nodup) (hl : ks.length = vs.length) : putK (ks.zip vs) k v = ks.zip (vs.set j v) := by
  have hjl := kidx_lt hj
  have e1 : valV (ks.zip vs) k = some vs[j] := kidx_val hj (List.getElem?_eq_getElem (by omega))
  have e2 : ((ks.zip vs).any fun kv => decide (kv.1 = k)) = true := by rw [valV_any, e1]; rfl
  unfold putK
  rw [e2]
  simp only [if_true]
  apply List.ext_getElem?
  intro m
  rw [List.getElem?_map]
  by_cases hm : m < ks.length
  · have h1 : (ks.zip vs)[m]? = some (ks[m], vs[m]) := by rw [List.getElem?_zip_eq_some]; exact ⟨List.getElem?_eq_getElem hm, List.getElem?_eq_getElem (by omega)⟩
    rw [h1]
    simp only [Option.map_some]
    symm
    rw [List.getElem?_zip_eq_some]
    have hg := kidx_get hj
    by_cases e : m = j
    · subst e
      have : ks[m] = k := by rw [List.getElem?_eq_getElem hm] at hg; exact Option.some.inj hg
      simp [this, hm, hl ▸ hm]
    · have : ks[m] ≠ k := fun z => by
        have h3 : ks[j] = k := by rw [List.getElem?_eq_getElem hjl] at hg; exact Option.some.inj hg
        exact e ((List.getElem_inj nd).mp (z.trans h3.symm))
      simp [this, hm, List.getElem_set_ne (Ne.symm e), hl ▸ hm]
  · rw [List.getElem?_eq_none (by simp; omega), List.getElem?_eq_none (by simp; omega)]
    rfl
theorem zip_snoc {κ : Type} {ks : List κ} {vs : List V} {k : κ} {v : V} (hl : ks.length = vs.length) : ks.zip vs ++ [(k, v)] = (ks ++ [k]).zip (vs ++ [v]) := by
  rw [List.zip_append hl]
  rfl
def sqDput (τv : TQ) (π : TP) (τk : TQ) : TSQ := fun D env => τv env fun r e1 => okO r = true ∧ π e1 fun i p => τk (frzE e1) fun rk _ => ∃ ks ts k, atE e1 i p = some (.dct ks ts) ∧ rk.2.key? = some k ∧ ks.Nodup ∧ ks.length ≤ 1000000 ∧ D.nx (putE e1 i p (dput ks ts k r.2))
theorem qs_dput (hu : X.A.units + 1 < cLine) (hv : QE X value τv) (ho : QP X o π) (hi : QE X ix τk) (hs : swapsWith value (some (.Subscript o ix pos')) pos.line X.env = pure false := by rfl) : QS X pn (.Assign [.Subscript o ix pos'] value pos) (sqDput τv π τk) := by
  refine weakS (ps_dput hu ho hi hv hs) fun D σ H ⟨F, A, env, E, S, h, ad⟩ => ?_
  refine lift_own S h fun r e1 v H1 q ⟨F1, A1, Ar, S1, st1, re, nd, fr⟩ => ?_
  obtain ⟨ho, q⟩ := q
  refine ⟨F1, A1, e1, _, S1, q, fun i p w H2 q2 sm va => ?_⟩
  have S2 := S1.same sm
  refine lift_sh S2.full q2 fun rk e3 y H3 F3 A3 q3 S3 st3 r3 => ?_
  obtain ⟨ks, ts, k, ea, ek, ndk, hsz, q3⟩ := q3
  have sm3 := step_full st3
  have S4 := S2.same sm3
  obtain ⟨v0, w0, B, ev, va0, ow, ndB, subB, kk⟩ := S4.put ea
  have hw0 : w0 = w := (((va v0 ev).same sm3).det va0).symm
  subst hw0
  simp only [Own] at ow
  obtain ⟨a, vs, B', rfl, rfl, ha, hl, ol⟩ := ow
  rw [key_some ek] at r3
  have smA := sm.trans sm3
  have ow1 : Own H3 v r.2 Ar := (re.own ho).keep fun b hb => by
    cases z : H1 b with
    | none => exact absurd z (re.there b hb)
    | some o => exact smA b o z
  obtain ⟨na, nB'⟩ := List.nodup_cons.mp ndB
  have dA : ∀ b ∈ Ar, b ∉ a :: B' := fun b hb hc => (fr b hb).2.1 (subB b hc)
  have fin : ∀ (vs' : List V) (u' : T) (D' : List Addr), Own (upd H3 a (.dK (putK (ks.zip vs) k v))) (.ref a) u' (a :: D') → D'.Nodup → (∀ b ∈ D', b ∈ B' ∨ b ∈ Ar) → E.nx (putE e1 i p u') → D.nx σ (upd H3 a (.dK (putK (ks.zip vs) k v))) := by
    intro vs' u' D' oD nD sD qn
    have hD : a ∉ D' := fun z => by
      rcases sD a z with y | y
      · exact na y
      · exact dA a y List.mem_cons_self
    obtain ⟨SR', st'⟩ := kk a _ u' (a :: D') Ar List.mem_cons_self oD (List.nodup_cons.mpr ⟨hD, nD⟩) (fun b hb => by
        rcases List.mem_cons.mp hb with rfl | hb
        · exact .inl List.mem_cons_self
        · rcases sD b hb with y | y
          · exact .inl (List.mem_cons_of_mem _ y)
          · exact .inr y) (fun b hb => ⟨(fr b hb).2.1, (fr b hb).2.2, ow1.there b hb⟩)
    exact ad.nx _ _ _ qn ⟨F1, _, SR', st' H F A (st1.trans (.same smA)) (fun b hb => (fr b hb).1), .refl⟩
  refine ⟨a, _, rfl, .inl ⟨_, k, ha, Rep.av_eq r3, ?_, rfl⟩, ?_⟩
  · rw [List.length_zip, ← hl, Nat.min_self]; exact big_line hsz
  · unfold dput at q3
    cases hj : kidx k ks with
    | some j =>
      rw [hj] at q3
      have hjt : j < ts.length := by rw [← ol.length, ← hl]; exact kidx_lt hj
      obtain ⟨D', oD, nD, sD⟩ := OwnL.setV ow1 nd ol nB' (fun b hb hc => dA b hb (List.mem_cons_of_mem _ hc)) hjt
      have hD : a ∉ D' := fun z => by
        rcases sD a z with y | y
        · exact na y
        · exact dA a y List.mem_cons_self
      refine fin vs _ D' ?_ nD sD q3
      rw [putK_set hj ndk hl]
      simp only [Own]
      exact ⟨a, _, D', rfl, rfl, upd_same, by simpa using hl, oD.keep fun b hb => upd_ne fun (z : b = a) => hD (by rw [← z]; exact hb)⟩
    | none =>
      rw [hj] at q3
      have hD : a ∉ B' ++ Ar := fun z => by
        rcases List.mem_append.mp z with y | y
        · exact na y
        · exact dA a y List.mem_cons_self
      refine fin vs _ (B' ++ Ar) ?_ (List.nodup_append.mpr ⟨nB', nd, fun x hx y hy e => ?_⟩) (fun b hb => List.mem_append.mp hb) q3
      · rw [putK_new v (valV_none (kidx_none hj)), zip_snoc hl]
        simp only [Own]
        refine ⟨a, _, B' ++ Ar, rfl, rfl, upd_same, by simp [hl], OwnL.keep (ol.append (C := Ar) (by simp only [OwnL]; exact ⟨v, [], Ar, [], rfl, by simp, ow1, rfl, rfl⟩)) fun b hb => upd_ne fun (z : b = a) => hD (by rw [← z]; exact hb)⟩
      · subst e; exact dA x hy (List.mem_cons_of_mem _ hx)

/-! ### d[k] op= e, scalars -/
def sqDaug (π : TP) (τk τv : TQ) (ρ : T → T → RK → Prop) : TSQ := fun D env => π env fun i p => τk (frzE env) fun rk _ => ∃ ks ts k j x, atE env i p = some (.dct ks ts) ∧ rk.2.key? = some k ∧ kidx k ks = some j ∧ ts[j]? = some (.av x) ∧ ks.Nodup ∧ ks.length ≤ 1000000 ∧
  τv (frzE env) fun rv _ => ρ (.av x) rv.2 fun rr => ∃ y, rr.2 = .av y ∧ D.nx (putE env i p (.dct ks (ts.set j (.av y))))
theorem qs_daug {op : Operator} {rd : V → V → Hp → VK → Prop} {ρ : T → T → RK → Prop} (hu : X.A.units + 1 < cLine) (hop : InOp X op rd) (br : Br2 X.K rd ρ) (ho : QP X o π) (hi : QE X ix τk) (hv : QE X value τv)
    (ha : ∀ ov iv new, augStore ix ov iv new = (do holding [new, ov, iv] (setItem ov iv new); release [new, ov, iv] []; pure .next) := by exact fun _ _ _ => rfl) : QS X pn (.AugAssign (.Subscript o ix tpos) op value pos) (sqDaug π τk τv ρ) := by
  refine weakS (ps_daug hu ho hi hv hop ha) fun D σ H ⟨F, A, env, E, S, h, ad⟩ => ?_
  refine ⟨F, A, env, _, S, h, fun i p w H2 q2 sm va => ?_⟩
  have S2 := S.same sm
  refine lift_sh S2.full q2 fun rk e3 y H3 F3 A3 q3 S3 st3 r3 => ?_
  obtain ⟨ks, ts, k, j, x, ea, ek, ej, et, ndk, hsz, q3⟩ := q3
  have sm3 := step_full st3
  have S4 := S2.same sm3
  obtain ⟨v0, w0, B0, ev, va0, ow0⟩ := place_val S4 ea
  have hw0 : w0 = w := (((va v0 ev).same sm3).det va0).symm
  subst hw0
  simp only [Own] at ow0
  obtain ⟨a, vs, B', rfl, rfl, ha, hl, ol⟩ := ow0
  rw [key_some ek] at r3
  have hjv : j < vs.length := by rw [← hl]; exact kidx_lt ej
  have exv : vs[j]? = some x := by
    obtain ⟨v, C, D, e1, o1, _⟩ := ol.erase et
    simp only [Own] at o1
    rw [e1, o1.1]
  refine ⟨a, x, rfl, .inl ⟨_, k, .inl ha, Rep.av_eq r3, (kidx_val ej exv).symm⟩, lift_sh S4.full q3 fun rv e5 y2 H5 F5 A5 q5 S5 st5 r5 => ?_⟩
  have sm5 := step_full st5
  refine br F5 H5 x y2 _ _ _ _ S5.fh (by simp [Rep]) r5 q5 fun rr v H6 q6 n => ?_
  obtain ⟨yy, ey, q6⟩ := q6
  have nn := n
  obtain ⟨sm6, F', Ar, f1, f2, f3, re, nd, fr⟩ := nn
  have ev6 : v = yy := by
    obtain ⟨b, t⟩ := rr
    simp only at ey
    subst ey
    exact (Res.av re).1
  subst ev6
  have smA := sm5.trans sm6
  have S6 := S4.same smA
  obtain ⟨v1, w1, B, ev1, va1, ow, ndB, subB, kk⟩ := S6.put ea
  have hw1 : w1 = .ref a := ((((va v1 ev1).same sm3).same smA).det va1).symm
  subst hw1
  simp only [Own] at ow
  obtain ⟨a', vs', B', ea', rfl, ha6, hl6, ol6⟩ := ow
  cases ea'
  have e6 : vs' = vs := by
    have := smA _ _ ha
    rw [ha6] at this
    have h7 : ks.zip vs' = ks.zip vs := HO.dK.inj (Option.some.inj this)
    have := congrArg (List.map (·.2)) h7
    rw [List.map_snd_zip (by omega), List.map_snd_zip (by omega)] at this
    exact this
  subst e6
  obtain ⟨na, nB'⟩ := List.nodup_cons.mp ndB
  have hjt : j < ts.length := (List.getElem?_eq_some_iff.mp et).1
  obtain ⟨D', oD, nD, sD⟩ := OwnL.setV (v' := v) (c' := .av v) (C := []) (by simp [Own]) List.nodup_nil ol6 nB' (by simp) hjt
  have hD : a ∉ D' := fun z => by
    rcases sD a z with y | y
    · exact na y
    · simp at y
  refine ⟨_, .inl ⟨_, k, ha6, Rep.av_eq r3, by rw [List.length_zip, ← hl, Nat.min_self]; exact big_line hsz, rfl⟩, ?_⟩
  rw [putK_set ej ndk hl]
  obtain ⟨SR', st'⟩ := kk a (.dK (ks.zip (vs'.set j v))) (.dct ks (ts.set j (.av v))) (a :: D') [] List.mem_cons_self (by
      simp only [Own]
      exact ⟨a, _, D', rfl, rfl, upd_same, by simpa using hl, oD.keep fun b hb => upd_ne fun (z : b = a) => hD (by rw [← z]; exact hb)⟩) (List.nodup_cons.mpr ⟨hD, nD⟩) (fun b hb => by
      rcases List.mem_cons.mp hb with rfl | hb
      · exact .inl List.mem_cons_self
      · rcases sD b hb with y | y
        · exact .inl (List.mem_cons_of_mem _ y)
        · simp at y) (by simp)
  exact ad.nx _ _ _ q6 ⟨F, _, SR', st' H F A (.same ((sm.trans sm3).trans smA)) (by simp), .refl⟩

/-! ### o.f = e -/
def fput (C : Addr) (f : Str) (ns : List Str) (ts : List T) (r : T) : T := match fidx f ns with
  | some j => .obj C ns (ts.set j r)
  | none => .obj C (ns ++ [f]) (ts ++ [r])
theorem putF_set {f : Str} {v : V} : ∀ {ns : List Str} {vs : List V} {j : Nat}, fidx f ns = some j → ns.length = vs.length → putF f v (ns.zip vs) = ns.zip (vs.set j v)
  | [], vs, j, h, _ => by simp [fidx] at h
  | n :: ns, [], j, h, hl => by simp at hl
  | n :: ns, w :: vs, j, h, hl => by
    unfold fidx at h
    rw [List.zip_cons_cons]
    unfold putF
    split at h
    · rename_i e
      cases h
      rw [if_pos e.symm]
      rfl
    · rename_i e
      cases z : fidx f ns with
      | none => rw [z] at h; cases h
      | some j' =>
        rw [z] at h
        cases h
        rw [if_neg (fun q => e q.symm), putF_set z (by simpa using hl)]
        rfl
theorem putF_new {f : Str} {v : V} : ∀ {ns : List Str} {vs : List V}, fidx f ns = none → ns.length = vs.length → putF f v (ns.zip vs) = (ns ++ [f]).zip (vs ++ [v])
  | [], vs, _, hl => by cases vs <;> first | rfl | simp at hl
  | n :: ns, [], h, hl => by simp at hl
  | n :: ns, w :: vs, h, hl => by
    unfold fidx at h
    split at h
    · cases h
    · rename_i e
      rw [List.zip_cons_cons]
      unfold putF
      rw [if_neg (fun q => e q.symm), putF_new (ns := ns) (vs := vs) (by cases z : fidx f ns with | none => rfl | some j => rw [z] at h; cases h) (by simpa using hl)]
      rfl
def sqFld (C : Addr) (f : Str) (τv : TQ) (π : TP) : TSQ := fun D env => τv env fun r e1 => okO r = true ∧ π e1 fun i p => ∃ ns ts, atE e1 i p = some (.obj C ns ts) ∧ ns.length < 100 ∧ D.nx (putE e1 i p (fput C f ns ts r.2))
theorem qs_fld {C : Addr} {f : Str} (ho : QP X o π) (hv : QE X value τv) (c : Cls X.K C) (n : NoAttr X.K C f) (hs : swapsWith value (some (.Attribute o f pos')) pos.line X.env = pure false := by rfl) : QS X pn (.Assign [.Attribute o f pos'] value pos) (sqFld C f τv π) := by
  refine weakS (ps_fld ho hv hs) fun D σ H ⟨F, A, env, E, S, h, ad⟩ => ?_
  refine lift_own S h fun r e1 v H1 q ⟨F1, A1, Ar, S1, st1, re, nd, fr⟩ => ?_
  obtain ⟨ho, q⟩ := q
  refine ⟨F1, A1, e1, _, S1, q, fun i p w H2 q2 sm va => ?_⟩
  have S2 := S1.same sm
  obtain ⟨ns, ts, ea, hn, q2⟩ := q2
  obtain ⟨v0, w0, B, ev, va0, ow, ndB, subB, kk⟩ := S2.put ea
  have hw0 : w0 = w := ((va v0 ev).det va0).symm
  subst hw0
  simp only [Own] at ow
  obtain ⟨a, dx, vs, B', rfl, rfl, ha, hdx, hl, ol⟩ := ow
  have ow1 : Own H2 v r.2 Ar := (re.own ho).keep fun b hb => by
    cases z : H1 b with
    | none => exact absurd z (re.there b hb)
    | some o => exact sm b o z
  obtain ⟨na, nB0⟩ := List.nodup_cons.mp ndB
  obtain ⟨nx, nB'⟩ := List.nodup_cons.mp nB0
  have dA : ∀ b ∈ Ar, b ∉ a :: dx :: B' := fun b hb hc => (fr b hb).2.1 (subB b hc)
  have adx : dx ≠ a := fun z => na (by rw [← z]; exact List.mem_cons_self)
  have fin : ∀ (fs : List (Str × V)) (u' : T) (D' : List Addr), Own (upd H2 a (.ins C dx fs)) (.ref a) u' (a :: dx :: D') → D'.Nodup → (∀ b ∈ D', b ∈ B' ∨ b ∈ Ar) → E.nx (putE e1 i p u') → D.nx σ (upd H2 a (.ins C dx fs)) := by
    intro fs u' D' oD nD sD qn
    have hD : a ∉ D' := fun z => by
      rcases sD a z with y | y
      · exact na (List.mem_cons_of_mem _ y)
      · exact dA a y List.mem_cons_self
    have hDx : dx ∉ D' := fun z => by
      rcases sD dx z with y | y
      · exact nx y
      · exact dA dx y (List.mem_cons_of_mem _ List.mem_cons_self)
    obtain ⟨SR', st'⟩ := kk a _ u' (a :: dx :: D') Ar List.mem_cons_self oD (List.nodup_cons.mpr ⟨by simp only [List.mem_cons, not_or]; exact ⟨Ne.symm adx, hD⟩, List.nodup_cons.mpr ⟨hDx, nD⟩⟩) (fun b hb => by
        rcases List.mem_cons.mp hb with rfl | hb
        · exact .inl List.mem_cons_self
        · rcases List.mem_cons.mp hb with rfl | hb
          · exact .inl (List.mem_cons_of_mem _ List.mem_cons_self)
          · rcases sD b hb with y | y
            · exact .inl (List.mem_cons_of_mem _ (List.mem_cons_of_mem _ y))
            · exact .inr y) (fun b hb => ⟨(fr b hb).2.1, (fr b hb).2.2, ow1.there b hb⟩)
    exact ad.nx _ _ _ qn ⟨F1, _, SR', st' H F A (st1.trans (.same sm)) (fun b hb => (fr b hb).1), .refl⟩
  refine ⟨a, C, dx, _, rfl, ha, c, n, ?_, ?_⟩
  · rw [List.length_zip, ← hl, Nat.min_self]; omega
  · unfold fput at q2
    have hkeep : ∀ {us : List V} {ws : List T} {D' : List Addr} {fs : List (Str × V)}, OwnL H2 us ws D' → a ∉ D' → OwnL (upd H2 a (.ins C dx fs)) us ws D' := fun o hD => o.keep fun b hb => upd_ne fun (z : b = a) => hD (by rw [← z]; exact hb)
    cases hj : fidx f ns with
    | some j =>
      rw [hj] at q2
      have hjt : j < ts.length := by rw [← ol.length, ← hl]; exact fidx_lt hj
      obtain ⟨D', oD, nD, sD⟩ := OwnL.setV ow1 nd ol nB' (fun b hb hc => dA b hb (List.mem_cons_of_mem _ (List.mem_cons_of_mem _ hc))) hjt
      have hD : a ∉ D' := fun z => by
        rcases sD a z with y | y
        · exact na (List.mem_cons_of_mem _ y)
        · exact dA a y List.mem_cons_self
      refine fin _ _ D' ?_ nD sD q2
      rw [putF_set hj hl]
      simp only [Own]
      exact ⟨a, dx, _, D', rfl, rfl, upd_same, by rw [upd_ne adx]; exact hdx, by simpa using hl, hkeep oD hD⟩
    | none =>
      rw [hj] at q2
      have hD : a ∉ B' ++ Ar := fun z => by
        rcases List.mem_append.mp z with y | y
        · exact na (List.mem_cons_of_mem _ y)
        · exact dA a y List.mem_cons_self
      refine fin _ _ (B' ++ Ar) ?_ (List.nodup_append.mpr ⟨nB', nd, fun x hx y hy e => ?_⟩) (fun b hb => List.mem_append.mp hb) q2
      · rw [putF_new hj hl]
        simp only [Own]
        exact ⟨a, dx, _, B' ++ Ar, rfl, rfl, upd_same, by rw [upd_ne adx]; exact hdx, by simp [hl], hkeep (ol.append (C := Ar) (by simp only [OwnL]; exact ⟨v, [], Ar, [], rfl, by simp, ow1, rfl, rfl⟩)) hD⟩
      · subst e; exact dA x hy (List.mem_cons_of_mem _ (List.mem_cons_of_mem _ hx))
end
end Q
end

section
set_option maxRecDepth 100000
/-! Q11: displays, built-in calls, methods that read. -/
namespace Q
open PySem L2
section
variable {X : Cx} {e : Expr} {es : List Expr} {τ : TQ} {τs : TQL} {pos p : Pos}

/-! ### displays: owned when all parts are -/
def allVals : List Arg → Option (List R)
  | [] => some []
  | .val r :: as => (allVals as).map (r :: ·)
  | .slot _ :: _ => none
theorem allVals_eq : ∀ {as : List Arg} {rs : List R}, allVals as = some rs → as = rs.map Arg.val
  | [], rs, h => by cases h; rfl
  | .val r :: as, rs, h => by
    simp only [allVals, Option.map_eq_some_iff] at h
    obtain ⟨rs', h, rfl⟩ := h
    simp [allVals_eq h]
  | .slot _ :: _, rs, h => by cases h
def tqLstO (τs : TQL) : TQ := fun env Q => τs env fun as e => ∃ rs, allVals as = some rs ∧ rs.length ≤ 1000000 ∧ Q (mkR rs) e
/-- a node new at p over items that were just made -/
theorem Out.node {K : PySem.W.Frag} {σ : St} {H F H1 : Hp} {A : Addr → Prop} {env : Env} {rs : List R} {vs : List V} {p : Addr} {o : HO} {t : T} (O : OutL K σ H F A (rs.map .val) env vs H1) (n : H1 p = none)
    (ho : ∀ H' B, H' p = some o → OwnL H' vs (rs.map (·.2)) B → Own H' (.ref p) t (p :: B)) (hr : ∀ F', F' p = some o → RepL K F' vs (rs.map (·.2)) → Rep K F' (.ref p) t) : Out K σ H F A (rs.all okO, t) env (.ref p) (upd H1 p o) := by
  cases h : rs.all okO with
  | true =>
    obtain ⟨F1, A1, Ar, S, st, ar, nd, fr⟩ := O
    have hp : p ∉ Ar := fun z => ar.there p z n
    have nn : ∀ b, H1 b = none → H b = none := fun b z => by
      cases y : H b with
      | none => rfl
      | some o => exact absurd z (st.dom b (by simp [y]))
    refine ⟨F1, A1, p :: Ar, S.new n, st.trans (Step.new n), ?_, List.nodup_cons.mpr ⟨hp, nd⟩, fun a ha => ?_⟩
    · rw [Res.tt]
      exact ho _ Ar upd_same ((ar.own h).keep fun a ha => upd_ne fun (z : a = p) => hp (by rw [← z]; exact ha))
    · rcases List.mem_cons.mp ha with rfl | ha
      · exact ⟨.inl (nn _ n), fun z => S.ah _ z n, S.fnone n⟩
      · exact fr a ha
  | false =>
    obtain ⟨F1, A1, S, st, re⟩ := O.sh (vals_map rs)
    exact (Out.new S (New.laid S.fh n (hr _ upd_same (re.mono (same_new (S.fnone n)))))).after st
theorem q_lstO (h : QA X es τs) : QE X (.List es pos) (tqLstO τs) := by
  refine weakE (pe_lst h) fun σ H Rk ⟨F, A, env, Q, S, h, k⟩ => ?_
  refine lift_args S h fun as e1 vs H1 q1 O => ?_
  obtain ⟨rs, e, hl, q⟩ := q1
  cases allVals_eq e
  have hv : vs.length = rs.length := by
    obtain ⟨F1, A1, S1, st1, re⟩ := O.sh (vals_map rs)
    simpa using re.length
  refine ⟨Nat.le_of_lt (big_line (by omega)), fun p n => k _ _ _ _ q (Out.node O n (fun H' B hp o => ?_) fun F' hp r => ?_)⟩
  · simp only [Own]; exact ⟨p, vs, B, rfl, rfl, hp, o⟩
  · simp only [Rep]; exact ⟨p, vs, rfl, hp, r⟩
def tqTupO (τs : TQL) : TQ := fun env Q => τs env fun as e => ∃ rs, allVals as = some rs ∧ rs.length ≤ 1000000 ∧ Q (rs.all okO, .tup (rs.map (·.2))) e
theorem q_tupO {x1 : Nat} (h : QA X es τs) : QE X (.Tuple es x1 pos) (tqTupO τs) := by
  refine weakE (pe_tup h) fun σ H Rk ⟨F, A, env, Q, S, h, k⟩ => ?_
  refine lift_args S h fun as e1 vs H1 q1 O => ?_
  obtain ⟨rs, e, hl, q⟩ := q1
  cases allVals_eq e
  have hv : vs.length = rs.length := by
    obtain ⟨F1, A1, S1, st1, re⟩ := O.sh (vals_map rs)
    simpa using re.length
  refine ⟨Nat.le_of_lt (big_line (by omega)), fun p n => k _ _ _ _ q (Out.node O n (fun H' B hp o => ?_) fun F' hp r => ?_)⟩
  · simp only [Own]; exact ⟨p, vs, B, rfl, rfl, hp, o⟩
  · simp only [Rep]; exact ⟨p, vs, rfl, hp, r⟩
/-- {} -/
theorem q_dnew : QE X (.Dict [] [] pos) (fun env Q => Q (true, .dct [] []) env) := by
  refine weakE pe_dnewK fun σ H Rk ⟨F, A, env, Q, S, h, k⟩ => ?_
  exact fun p n => k _ _ _ _ h (Out.new S (New.laidO S.fh n (Ar := [p]) (by simp only [Own]; exact ⟨p, [], [], rfl, rfl, upd_same, rfl, by simp [OwnL]⟩) (by simp) (by simpa using n)))

/-! ### built-in functions -/
/-- a length -/
def tlen : T → Option Nat
  | .lst ts => some ts.length
  | .tup ts => some ts.length
  | .rd ts => some ts.length
  | .dct ks _ => some ks.length
  | .av (.str x) => if x.length ≤ sizeLine then some x.length else none
  | _ => none
theorem call_lenR : CallR X (.builtin "len") (fun xs H Q => ∃ a kvs, xs = [V.ref a] ∧ Rd H a (.dK kvs) ∧ Q (.int kvs.length) H) := by
  intro pins s σ H xs us Q I r h
  obtain ⟨a, kvs, rfl, ha, q⟩ := h
  obtain ⟨u, rfl, ru⟩ := vals1 r
  cases ru
  exact d_len I ha fun t s' I' => ⟨.int kvs.length, H, I', ⟨t, rfl⟩, q⟩
def roLen : List T → RK → Prop := fun ts Q => ∃ t n, ts = [t] ∧ tlen t = some n ∧ Q (false, .int (n : Int))
theorem br_len {K : PySem.W.Frag} : BrL K (fun xs H Q => (∃ p ys, xs = [V.ref p] ∧ (SqL K H p ys ∨ SqT K H p ys) ∧ Q (.int ys.length) H) ∨ (∃ z, xs = [V.str z] ∧ z.length ≤ sizeLine ∧ Q (.int z.length) H) ∨ ∃ a kvs, xs = [V.ref a] ∧ Rd H a (.dK kvs) ∧ Q (.int kvs.length) H) roLen := by
  intro F H xs ts Rk Q s r h k
  obtain ⟨t, n, rfl, hn, q⟩ := h
  simp only [RepL] at r
  obtain ⟨v, us, rfl, rv, rfl⟩ := r
  unfold tlen at hn
  split at hn
  · cases hn
    simp only [Rep] at rv
    obtain ⟨a, vs, rfl, h1, r1⟩ := rv
    exact .inl ⟨a, vs, rfl, .inl (.of (s _ _ h1)), by rw [r1.length]; exact k _ _ _ q (.av s)⟩
  · cases hn
    simp only [Rep] at rv
    obtain ⟨a, vs, rfl, h1, r1⟩ := rv
    exact .inl ⟨a, vs, rfl, .inr (.of (s _ _ h1)), by rw [r1.length]; exact k _ _ _ q (.av s)⟩
  · cases hn
    simp only [Rep] at rv
    obtain ⟨a, vs, rfl, h1, r1⟩ := rv
    exact .inl ⟨a, vs, rfl, .inl (s.seq h1), by rw [r1.length]; exact k _ _ _ q (.av s)⟩
  · cases hn
    simp only [Rep] at rv
    obtain ⟨a, vs, rfl, h1, hl, r1⟩ := rv
    refine .inr (.inr ⟨a, _, rfl, Rd.mono s h1, ?_⟩)
    rw [List.length_zip, ← hl, Nat.min_self]
    exact k _ _ _ q (.av s)
  · split at hn
    · rename_i hz
      cases hn
      cases Rep.av_eq rv
      exact .inr (.inl ⟨_, rfl, hz, k _ _ _ q (.av s)⟩)
    · cases hn
  · cases hn
theorem q_len (hg : Gl X "len") (hm : X.mg "len" = none) (ha : QA X (e :: es) τs) (he : starEach (e :: es) X.env = (false, eval e X.env) :: starEach es X.env := by rfl) (hpl : (backTo pos (starEach es X.env)).any (·.1) = false := by rfl) : QE X (.Call (.Name "len" p) (e :: es) [] pos) (tqL roLen τs) :=
  qe_callB (call_len_seq.or (call_len_str.or call_lenR)) br_len hg hm PySem.boot_len ha (by decide) (by decide) he hpl
def roAbs : List T → RK → Prop := fun ts Q => ∃ i, ts = [.int i] ∧ Q (false, .int (if i < 0 then -i else i))
theorem q_abs (hg : Gl X "abs") (hm : X.mg "abs" = none) (ha : QA X (e :: es) τs) (he : starEach (e :: es) X.env = (false, eval e X.env) :: starEach es X.env := by rfl) (hpl : (backTo pos (starEach es X.env)).any (·.1) = false := by rfl) : QE X (.Call (.Name "abs" p) (e :: es) [] pos) (tqL roAbs τs) :=
  qe_callB call_abs (by
    intro F H xs ts Rk Q s r h k
    obtain ⟨i, rfl, q⟩ := h
    simp only [RepL, Rep] at r
    obtain ⟨_, _, rfl, rfl, rfl⟩ := r
    exact ⟨i, rfl, k _ _ _ q (.av s)⟩) hg hm (by decide +kernel) ha (by decide) (by decide) he hpl
def roMax : List T → RK → Prop := fun ts Q => ∃ i j, ts = [.int i, .int j] ∧ Q (false, .int (if j > i then j else i))
theorem q_max (hc : X.calm = true) (hg : Gl X "max") (hm : X.mg "max" = none) (ha : QA X (e :: es) τs) (he : starEach (e :: es) X.env = (false, eval e X.env) :: starEach es X.env := by rfl) (hpl : (backTo pos (starEach es X.env)).any (·.1) = false := by rfl) : QE X (.Call (.Name "max" p) (e :: es) [] pos) (tqL roMax τs) :=
  qe_callB (call_max2 hc) (by
    intro F H xs ts Rk Q s r h k
    obtain ⟨i, j, rfl, q⟩ := h
    simp only [RepL, Rep] at r
    obtain ⟨_, _, rfl, rfl, _, _, rfl, rfl, rfl⟩ := r
    exact ⟨i, j, rfl, k _ _ _ q (.av s)⟩) hg hm (by decide +kernel) ha (by decide) (by decide) he hpl
def roMin : List T → RK → Prop := fun ts Q => ∃ i j, ts = [.int i, .int j] ∧ Q (false, .int (if j < i then j else i))
theorem q_min (hc : X.calm = true) (hg : Gl X "min") (hm : X.mg "min" = none) (ha : QA X (e :: es) τs) (he : starEach (e :: es) X.env = (false, eval e X.env) :: starEach es X.env := by rfl) (hpl : (backTo pos (starEach es X.env)).any (·.1) = false := by rfl) : QE X (.Call (.Name "min" p) (e :: es) [] pos) (tqL roMin τs) :=
  qe_callB (call_min2 hc) (by
    intro F H xs ts Rk Q s r h k
    obtain ⟨i, j, rfl, q⟩ := h
    simp only [RepL, Rep] at r
    obtain ⟨_, _, rfl, rfl, _, _, rfl, rfl, rfl⟩ := r
    exact ⟨i, j, rfl, k _ _ _ q (.av s)⟩) hg hm (by decide +kernel) ha (by decide) (by decide) he hpl
def roInt : List T → RK → Prop := fun ts Q => (∃ i, ts = [.int i] ∧ Q (false, .int i)) ∨ ∃ b, ts = [.bl b] ∧ Q (false, .int (if b then 1 else 0))
theorem q_int (hg : Gl X "int") (hm : X.mg "int" = none) (ha : QA X (e :: es) τs) (he : starEach (e :: es) X.env = (false, eval e X.env) :: starEach es X.env := by rfl) (hpl : (backTo pos (starEach es X.env)).any (·.1) = false := by rfl) : QE X (.Call (.Name "int" p) (e :: es) [] pos) (tqL roInt τs) :=
  qe_callTy call_int1 (by
    intro F H xs ts Rk Q s r h k
    rcases h with ⟨i, rfl, q⟩ | ⟨b, rfl, q⟩
    · simp only [RepL, Rep] at r
      obtain ⟨_, _, rfl, rfl, rfl⟩ := r
      exact .inl ⟨i, rfl, k _ _ _ q (.av s)⟩
    · simp only [RepL, Rep] at r
      obtain ⟨_, _, rfl, rfl, rfl⟩ := r
      exact .inr ⟨b, rfl, k _ _ _ q (.av s)⟩) hg hm (by decide +kernel) ha (by decide) (by decide) he hpl
theorem repL_ints {K : PySem.W.Frag} {F : Hp} : ∀ {ns : List Int} {vs : List V}, RepL K F vs (ns.map T.int) → vs = ns.map V.int
  | [], vs, r => by simpa only [List.map_nil, RepL] using r
  | n :: ns, vs, r => by
    simp only [List.map_cons, RepL, Rep] at r
    obtain ⟨_, us, rfl, rfl, r⟩ := r
    rw [repL_ints r]; rfl
theorem repL_strs {K : PySem.W.Frag} {F : Hp} : ∀ {xs : List Str} {vs : List V}, RepL K F vs (xs.map T.str) → vs = xs.map V.str
  | [], vs, r => by simpa only [List.map_nil, RepL] using r
  | n :: ns, vs, r => by
    simp only [List.map_cons, RepL, Rep] at r
    obtain ⟨_, us, rfl, rfl, r⟩ := r
    rw [repL_strs r]; rfl
theorem repL_bls {K : PySem.W.Frag} {F : Hp} : ∀ {bs : List Bool} {vs : List V}, RepL K F vs (bs.map T.bl) → vs = bs.map V.bl
  | [], vs, r => by simpa only [List.map_nil, RepL] using r
  | n :: ns, vs, r => by
    simp only [List.map_cons, RepL, Rep] at r
    obtain ⟨_, us, rfl, rfl, r⟩ := r
    rw [repL_bls r]; rfl
theorem strs_repL {K : PySem.W.Frag} {F : Hp} : ∀ {xs : List Str}, RepL K F (xs.map V.str) (xs.map T.str)
  | [] => by simp [RepL]
  | x :: xs => by
    simp only [List.map_cons, RepL, Rep]
    exact ⟨_, _, rfl, rfl, strs_repL⟩
def roSum : List T → RK → Prop := fun ts Q => ∃ ns : List Int, ts = [.lst (ns.map T.int)] ∧ Q (false, .int ns.sum)
theorem q_sum (hc : X.calm = true) (hg : Gl X "sum") (hm : X.mg "sum" = none) (ha : QA X (e :: es) τs) (he : starEach (e :: es) X.env = (false, eval e X.env) :: starEach es X.env := by rfl) (hpl : (backTo pos (starEach es X.env)).any (·.1) = false := by rfl) : QE X (.Call (.Name "sum" p) (e :: es) [] pos) (tqL roSum τs) :=
  qe_callB (cr_sum hc) (by
    intro F H xs ts Rk Q s r h k
    obtain ⟨ns, rfl, q⟩ := h
    simp only [RepL, Rep] at r
    obtain ⟨_, _, rfl, ⟨a, vs, rfl, h1, r1⟩, rfl⟩ := r
    cases repL_ints r1
    exact ⟨a, ns, rfl, .of (s _ _ h1), k _ _ _ q (.av s)⟩) hg hm (by decide +kernel) ha (by decide) (by decide) he hpl
def roAll : List T → RK → Prop := fun ts Q => ∃ bs : List Bool, ts = [.lst (bs.map T.bl)] ∧ Q (false, .bl (bs.all id))
theorem q_all (hc : X.calm = true) (hg : Gl X "all") (hm : X.mg "all" = none) (ha : QA X (e :: es) τs) (he : starEach (e :: es) X.env = (false, eval e X.env) :: starEach es X.env := by rfl) (hpl : (backTo pos (starEach es X.env)).any (·.1) = false := by rfl) : QE X (.Call (.Name "all" p) (e :: es) [] pos) (tqL roAll τs) :=
  qe_callB (cr_all hc) (by
    intro F H xs ts Rk Q s r h k
    obtain ⟨ns, rfl, q⟩ := h
    simp only [RepL, Rep] at r
    obtain ⟨_, _, rfl, ⟨a, vs, rfl, h1, r1⟩, rfl⟩ := r
    cases repL_bls r1
    exact ⟨a, ns, rfl, .of (s _ _ h1), k _ _ _ q (.av s)⟩) hg hm (by decide +kernel) ha (by decide) (by decide) he hpl
def roAny : List T → RK → Prop := fun ts Q => ∃ bs : List Bool, ts = [.lst (bs.map T.bl)] ∧ Q (false, .bl (bs.any id))
theorem q_any (hc : X.calm = true) (hg : Gl X "any") (hm : X.mg "any" = none) (ha : QA X (e :: es) τs) (he : starEach (e :: es) X.env = (false, eval e X.env) :: starEach es X.env := by rfl) (hpl : (backTo pos (starEach es X.env)).any (·.1) = false := by rfl) : QE X (.Call (.Name "any" p) (e :: es) [] pos) (tqL roAny τs) :=
  qe_callB (cr_any hc) (by
    intro F H xs ts Rk Q s r h k
    obtain ⟨ns, rfl, q⟩ := h
    simp only [RepL, Rep] at r
    obtain ⟨_, _, rfl, ⟨a, vs, rfl, h1, r1⟩, rfl⟩ := r
    cases repL_bls r1
    exact ⟨a, ns, rfl, .of (s _ _ h1), k _ _ _ q (.av s)⟩) hg hm (by decide +kernel) ha (by decide) (by decide) he hpl
/-- sorted of texts, of a dict's keys that are texts -/
def roSorted : List T → RK → Prop := fun ts Q => ∃ xs : List Str, (ts = [.lst (xs.map T.str)] ∨ ∃ us, ts = [.dct (xs.map Sum.inr) us]) ∧ xs.length < 64 ∧ ∀ ys : List Str, ys.Perm xs → PyProof.Rows.sortedS ys = true → Q (true, .lst (ys.map T.str))
theorem new_strs {K : PySem.W.Frag} {F H : Hp} {ys : List Str} {p : Addr} (s : Same F H) (n : H p = none) : New K F H (true, .lst (ys.map T.str)) (.ref p) (upd H p (.lst (ys.map V.str))) := by
  have := New.lst (K := K) s (strs_repL (xs := ys)) n
  unfold mkL at this
  rw [show (ys.map T.str).all T.isAv = true by simp [T.isAv]] at this
  exact this
theorem q_sorted (hc : X.calm = true) (hg : Gl X "sorted") (hm : X.mg "sorted" = none) (ha : QA X (e :: es) τs) (he : starEach (e :: es) X.env = (false, eval e X.env) :: starEach es X.env := by rfl) (hpl : (backTo pos (starEach es X.env)).any (·.1) = false := by rfl) : QE X (.Call (.Name "sorted" p) (e :: es) [] pos) (tqL roSorted τs) :=
  qe_callB (cr_sortedS.or (call_sortedD hc)) (by
    intro F H xs ts Rk Q s r h k
    obtain ⟨ns, ht, h64, q⟩ := h
    rcases ht with rfl | ⟨us, rfl⟩
    · simp only [RepL, Rep] at r
      obtain ⟨_, _, rfl, ⟨a, vs, rfl, h1, r1⟩, rfl⟩ := r
      cases repL_strs r1
      exact .inl ⟨a, ns, rfl, .of (s _ _ h1), h64, fun ys p hp hs n => k _ _ _ (q ys hp hs) (new_strs s n)⟩
    · simp only [RepL, Rep] at r
      obtain ⟨_, _, rfl, ⟨a, vs, rfl, h1, hl, r1⟩, rfl⟩ := r
      exact .inr ⟨a, _, ns, rfl, Rd.mono s h1, List.map_fst_zip (by omega), h64, fun ys p hp hs n => k _ _ _ (q ys hp hs) (new_strs s n)⟩) hg hm (by decide +kernel) ha (by decide) (by decide) he hpl
/-- list of a list, a tuple, a text, a dict -/
theorem call_list_sg (hc : X.calm = true) : CallR X (.type "list") (fun xs H Q => ∃ x : Str, xs = [.str x] ∧ x.length ≤ sizeLine ∧ ∀ l, H l = none → Q (.ref l) (upd H l (.lst (x.cps.toList.map fun c => V.str ⟨#[c]⟩)))) := by
  intro pins s σ H xs us Q I r h
  obtain ⟨x, rfl, hz, q⟩ := h
  obtain ⟨u, rfl, t, rfl⟩ := vals1 r
  refine call_list_str (I.ok.hd hc) x t (hn := hz) fun h' tk acc' c' hk hS hacc => ?_
  have hv : Vals (x.cps.toList.map fun c => V.str ⟨#[c]⟩) acc'.toList := by
    have : ∀ (cs : List Nat) (us : List Value), us.length = cs.length → (∀ (j : Nat) v, us[j]? = some v → ∃ c u, cs[j]? = some c ∧ v = Value.str ⟨#[c]⟩ u) → Vals (cs.map fun c => V.str ⟨#[c]⟩) us := by
      intro cs
      induction cs with
      | nil => intro us hl _; cases us <;> first | exact .nil | simp at hl
      | cons c cs ih =>
        intro us hl hh
        cases us with
        | nil => simp at hl
        | cons v us =>
          obtain ⟨c', u', e1, e2⟩ := hh 0 v rfl
          cases e1
          exact .cons ⟨u', e2⟩ (ih us (by simpa using hl) fun j v hj => hh (j + 1) v (by simpa using hj))
    refine this _ _ (by simp [hacc.1]) fun j v hj => ?_
    obtain ⟨c, u', hc', rfl⟩ := hacc.2 j v (by simpa using hj)
    exact ⟨c, u', by simpa using hc', rfl⟩
  refine ⟨.ref _, _, I.laid (a := s.heap.objs.size) (o := .lst (x.cps.toList.map fun c => V.str ⟨#[c]⟩)) (t' := tk) hk (Nat.le_refl _) ⟨?_, acc'.toList, c', hv, by simpa using hS⟩, rfl, q _ (I.hok.fresh (Nat.le_refl _))⟩
  rw [List.length_map]
  exact hz
def roList : List T → RK → Prop := fun ts Q => (∃ us, (ts = [.lst us] ∨ ts = [.tup us] ∨ ts = [.rd us]) ∧ Q (mkL us)) ∨ (∃ x : Str, ts = [.str x] ∧ x.length ≤ sizeLine ∧ Q (true, .lst (signsT x))) ∨ ∃ ks us, ts = [.dct ks us] ∧ Q (true, .lst (ks.map keyT))
theorem repL_of {K : PySem.W.Frag} {F : Hp} : ∀ {vs : List V}, RepL K F vs (vs.map T.av)
  | [] => by simp [RepL]
  | v :: vs => by simp only [List.map_cons, RepL, Rep]; exact ⟨_, _, rfl, rfl, repL_of⟩
theorem new_avs {K : PySem.W.Frag} {F H : Hp} {vs : List V} {p : Addr} (s : Same F H) (n : H p = none) : New K F H (true, .lst (vs.map T.av)) (.ref p) (upd H p (.lst vs)) := by
  have := New.lst (K := K) s (repL_of (vs := vs)) n
  unfold mkL at this
  rw [show (vs.map T.av).all T.isAv = true by simp [T.isAv]] at this
  exact this
theorem q_list (hc : X.calm = true) (hg : Gl X "list") (hm : X.mg "list" = none) (ha : QA X (e :: es) τs) (he : starEach (e :: es) X.env = (false, eval e X.env) :: starEach es X.env := by rfl) (hpl : (backTo pos (starEach es X.env)).any (·.1) = false := by rfl) : QE X (.Call (.Name "list" p) (e :: es) [] pos) (tqL roList τs) :=
  qe_callTy (call_list_of.or ((call_list_sg hc).or (call_listD hc))) (by
    intro F H xs ts Rk Q s r h k
    rcases h with ⟨us, ht, q⟩ | ⟨x, rfl, hz, q⟩ | ⟨ks, us, rfl, q⟩
    · rcases ht with rfl | rfl | rfl
      · simp only [RepL, Rep] at r
        obtain ⟨_, _, rfl, ⟨a, vs, rfl, h1, r1⟩, rfl⟩ := r
        exact .inl ⟨a, vs, rfl, .inl (.of (s _ _ h1)), fun l n => k _ _ _ q (New.lst s r1 n)⟩
      · simp only [RepL, Rep] at r
        obtain ⟨_, _, rfl, ⟨a, vs, rfl, h1, r1⟩, rfl⟩ := r
        exact .inl ⟨a, vs, rfl, .inr (.of (s _ _ h1)), fun l n => k _ _ _ q (New.lst s r1 n)⟩
      · simp only [RepL, Rep] at r
        obtain ⟨_, _, rfl, ⟨a, vs, rfl, h1, r1⟩, rfl⟩ := r
        exact .inl ⟨a, vs, rfl, .inl (s.seq h1), fun l n => k _ _ _ q (New.lst s r1 n)⟩
    · simp only [RepL, Rep] at r
      obtain ⟨_, _, rfl, rfl, rfl⟩ := r
      refine .inr (.inl ⟨x, rfl, hz, fun l n => k _ _ _ q ?_⟩)
      have := new_avs (K := X.K) (vs := x.cps.toList.map fun c => V.str ⟨#[c]⟩) s n
      rw [List.map_map] at this
      exact this
    · simp only [RepL, Rep] at r
      obtain ⟨_, _, rfl, ⟨a, vs, rfl, h1, hl, r1⟩, rfl⟩ := r
      refine .inr (.inr ⟨a, _, rfl, Rd.mono s h1, fun p n => k _ _ _ q ?_⟩)
      have e1 : ((ks.zip vs).map fun kv => kV kv.1) = ks.map kV := by
        have h2 : (ks.zip vs).map (·.1) = ks := List.map_fst_zip (by omega)
        have h3 : ((ks.zip vs).map fun kv => kV kv.1) = ((ks.zip vs).map (·.1)).map kV := by rw [List.map_map]; rfl
        rw [h3, h2]
      rw [e1]
      have := new_avs (K := X.K) (vs := ks.map kV) s n
      rw [List.map_map] at this
      exact this) hg hm (by decide +kernel) ha (by decide) (by decide) he hpl
/-- isinstance against a built-in type -/
def tyOf : T → Option String
  | .av .non => some "NoneType"
  | .av (.bl _) => some "bool"
  | .av (.int _) => some "int"
  | .av (.str _) => some "str"
  | .av _ => none
  | .lst _ => some "list"
  | .tup _ => some "tuple"
  | .dct _ _ => some "dict"
  | .dtt _ _ => none
  | .obj _ _ _ => none
  | .rd _ => none
/-- the answers that are asked for -/
def isTy (a b : String) : Bool := decide (a = b) || (decide (a = "bool") && decide (b = "int"))
def roIsi : List T → RK → Prop := fun ts Q => ∃ t n a, ts = [t, .av (.ty n)] ∧ tyOf t = some a ∧ kitB a n = some (isTy a n) ∧ Q (false, .bl (isTy a n))
theorem q_isi (hg : Gl X "isinstance") (hm : X.mg "isinstance" = none) (ha : QA X (e :: es) τs) (he : starEach (e :: es) X.env = (false, eval e X.env) :: starEach es X.env := by rfl) (hpl : (backTo pos (starEach es X.env)).any (·.1) = false := by rfl) : QE X (.Call (.Name "isinstance" p) (e :: es) [] pos) (tqL roIsi τs) :=
  qe_callB call_isi (by
    intro F H xs ts Rk Q s r h k
    obtain ⟨t, n, a, rfl, ht, hk, q⟩ := h
    simp only [RepL] at r
    obtain ⟨v, _, rfl, rv, c, _, rfl, rc, rfl⟩ := r
    cases Rep.av_eq rc
    refine ⟨v, .ty n, .type a, .type n, _, rfl, .ty n, ?_, kit_ty hk, k _ _ _ q (.av s)⟩
    unfold tyOf at ht
    split at ht <;> first | (cases ht; done) | skip
    · cases ht; cases Rep.av_eq rv; exact .base .non
    · cases ht; cases Rep.av_eq rv; exact .base (.bl _)
    · cases ht; cases Rep.av_eq rv; exact .base (.int _)
    · cases ht; cases Rep.av_eq rv; exact .base (.str _)
    · cases ht; simp only [Rep] at rv; obtain ⟨a, vs, rfl, h1, _⟩ := rv; exact .base (.lst (s _ _ h1))
    · cases ht; simp only [Rep] at rv; obtain ⟨a, vs, rfl, h1, _⟩ := rv; exact .base (.tup (s _ _ h1))
    · cases ht; simp only [Rep] at rv; obtain ⟨a, vs, rfl, h1, _⟩ := rv
      rcases h1 with h1 | ⟨o, h1⟩
      · exact .base (.dK (s _ _ h1))
      · exact .fDict (s _ _ h1)) hg hm (by decide +kernel) ha (by decide) (by decide) he hpl
end
end Q
end

section
set_option maxRecDepth 100000
/-! Q12: dict comprehensions, several targets, more methods. -/
namespace Q
open PySem L2

/-! ### x = e, shared from now on -/
section
variable {X : Cx} {pn : List Nat} {st : Stmt} {τ : TQ} {τs : TQL} {pos : Pos}
def sqSetF (i : Nat) (τ : TQ) : TSQ := fun D env => τ env fun r e => D.nx (e.set i (some (false, r.2)))
theorem qs_setF {i : Nat} (h : PS X st (tAsg (lift X.K τ) (gName i))) (hp : i ∉ pn := by simp) : QS X pn st (sqSetF i τ) := by
  refine weakS h fun D σ H ⟨F, A, env, E, S, h, ad⟩ => ?_
  refine lift_own S h fun r e1 v H1 q O => ?_
  obtain ⟨F1, A1, Ar, S1, st1, re, nd, fr⟩ := O.freeze
  exact ad.nx _ _ _ q ⟨F1, _, S1.set re nd fun a ha => ⟨(fr a ha).2.1, (fr a ha).2.2⟩, st1.wide fun a ha => (fr a ha).1, Pin.set hp⟩

/-! ### a, b = x, y -/
def setAll : Env → List Nat → List R → Env
  | env, j :: js, r :: rs => setAll (env.set j (some r)) js rs
  | env, _, _ => env
def setAllS : St → List Nat → List V → St
  | σ, j :: js, v :: vs => setAllS (σ.set j (some v)) js vs
  | σ, _, _ => σ
theorem setAllS_pin : ∀ {js : List Nat} {vs : List V} {σ : St}, (∀ i ∈ pn, i ∉ js) → Pin pn σ (setAllS σ js vs)
  | [], vs, σ, h => by cases vs <;> exact .refl
  | j :: js, [], σ, h => .refl
  | j :: js, v :: vs, σ, h => by
    have h1 : j ∉ pn := fun z => h j z (List.mem_cons_self)
    exact (Pin.set h1).trans (setAllS_pin fun i hi z => h i hi (List.mem_cons_of_mem _ z))
theorem SR.setAll {K : PySem.W.Frag} : ∀ {js : List Nat} {rs : List R} {vs : List V} {σ σ0 : St} {H F : Hp} {A : Addr → Prop} {env : Env} {B : List Addr}, SR K σ H F A env → ArgsR K F H σ0 (rs.map .val) vs B → B.Nodup → (∀ a ∈ B, ¬ A a ∧ F a = none) →
    SR K (setAllS σ js vs) H F (fun a => A a ∨ a ∈ B) (Q.setAll env js rs)
  | [], rs, vs, σ, σ0, H, F, A, env, B, S, ar, nd, fr => by
    have : SR K σ H F (fun a => A a ∨ a ∈ B) env := by
      obtain ⟨fh, ah, le, As, h1, h2, h3, h4⟩ := S
      exact ⟨fh, fun a ha => ha.elim (ah a) (ar.there a), le, As, h1, h2, h3, fun i a ha => ⟨.inl (h4 i a ha).1, (h4 i a ha).2⟩⟩
    cases vs <;> cases rs <;> exact this
  | j :: js, [], vs, σ, σ0, H, F, A, env, B, S, ar, nd, fr => by
    obtain ⟨rfl, rfl⟩ := ar
    have : SR K σ H F (fun a => A a ∨ a ∈ ([] : List Addr)) env := by
      obtain ⟨fh, ah, le, As, h1, h2, h3, h4⟩ := S
      exact ⟨fh, fun a ha => ha.elim (ah a) (by simp), le, As, h1, h2, h3, fun i a ha => ⟨.inl (h4 i a ha).1, (h4 i a ha).2⟩⟩
    exact this
  | j :: js, r :: rs, vs, σ, σ0, H, F, A, env, B, S, ar, nd, fr => by
    obtain ⟨v, us, B1, B2, rfl, rfl, re, p⟩ := ar
    obtain ⟨n1, n2, n3⟩ := List.nodup_append.mp nd
    have S1 := S.set (i := j) re n1 fun a ha => fr a (List.mem_append_left _ ha)
    have S2 := SR.setAll (js := js) S1 p n2 fun a ha => ⟨fun z => z.elim (fr a (List.mem_append_right _ ha)).1 fun z => n3 a z a ha rfl, (fr a (List.mem_append_right _ ha)).2⟩
    obtain ⟨fh, ah, le, As, h1, h2, h3, h4⟩ := S2
    refine ⟨fh, fun a ha => ah a ?_, le, As, h1, h2, h3, fun i a ha => ⟨?_, (h4 i a ha).2⟩⟩
    · rcases ha with z | z
      · exact .inl (.inl z)
      · rcases List.mem_append.mp z with z | z
        · exact .inl (.inr z)
        · exact .inr z
    · rcases (h4 i a ha).1 with (z | z) | z
      · exact .inl z
      · exact .inr (List.mem_append_left _ z)
      · exact .inr (List.mem_append_right _ z)
/-- shared where the mask says so -/
def frzM : List Bool → List R → List R
  | b :: bs, r :: rs => (if b = true then (false, r.2) else r) :: frzM bs rs
  | _, rs => rs
theorem args_frz {K : PySem.W.Frag} {σ σ0 : St} {H F H' F' : Hp} {A A' : Addr → Prop} {env : Env} : ∀ {bs : List Bool} {rs : List R} {vs : List V} {B : List Addr}, SR K σ H' F' A' env → Step H F A H' F' A' → ArgsR K F' H' σ0 (rs.map .val) vs B → B.Nodup → (∀ a ∈ B, (H a = none ∨ A a) ∧ ¬ A' a ∧ F' a = none) →
    ∃ F2 B2, SR K σ H' F2 A' env ∧ Step H F A H' F2 A' ∧ Same F' F2 ∧ ArgsR K F2 H' σ0 ((frzM bs rs).map .val) vs B2 ∧ B2.Nodup ∧ (∀ a ∈ B2, a ∈ B ∧ F2 a = none) ∧ (∀ b o, F2 b = some o → F' b = some o ∨ b ∈ B)
  | [], rs, vs, B, S, st, ar, nd, fr => ⟨F', B, S, st, .refl _, by cases rs <;> exact ar, nd, fun a ha => ⟨ha, (fr a ha).2.2⟩, fun b o h => .inl h⟩
  | b :: bs, [], vs, B, S, st, ar, nd, fr => ⟨F', B, S, st, .refl _, ar, nd, fun a ha => ⟨ha, (fr a ha).2.2⟩, fun b o h => .inl h⟩
  | b :: bs, r :: rs, vs, B, S, st, ar, nd, fr => by
    obtain ⟨v, us, B1, B2, rfl, rfl, re, p⟩ := ar
    obtain ⟨n1, n2, n3⟩ := List.nodup_append.mp nd
    obtain ⟨F2, C, S2, st2, sm, ar2, ndC, subC, srcF⟩ := args_frz (bs := bs) S st p n2 fun a ha => fr a (List.mem_append_right _ ha)
    have nF2 : ∀ a ∈ B1, F2 a = none := fun a ha => by
      cases z : F2 a with
      | none => rfl
      | some o =>
        rcases srcF a o z with y | y
        · rw [(fr a (List.mem_append_left _ ha)).2.2] at y; cases y
        · exact (n3 a ha a y rfl).elim
    have re2 := re.go sm (H' := H') fun _ _ => rfl
    cases b with
    | false =>
      refine ⟨F2, B1 ++ C, S2, st2, sm, ⟨v, us, B1, C, rfl, rfl, re2, ar2⟩, List.nodup_append.mpr ⟨n1, ndC, fun a ha b hb e => ?_⟩, fun a ha => ?_, fun b o h => (srcF b o h).imp id fun z => List.mem_append_right _ z⟩
      · subst e; exact n3 a ha a (subC a hb).1 rfl
      · rcases List.mem_append.mp ha with ha | ha
        · exact ⟨List.mem_append_left _ ha, nF2 a ha⟩
        · exact ⟨List.mem_append_right _ (subC a ha).1, (subC a ha).2⟩
    | true =>
      have fr1 : ∀ a ∈ B1, F2 a = none ∧ ¬ A' a := fun a ha => ⟨nF2 a ha, (fr a (List.mem_append_left _ ha)).2.1⟩
      refine ⟨grow F2 H' B1, C, S2.grow fr1, ⟨st2.ff.trans (grow_same fun a ha => nF2 a ha), st2.hh, st2.dom, st2.an, fun b o h => ?_⟩, sm.trans (grow_same fun a ha => nF2 a ha), ⟨v, us, [], C, rfl, rfl, ?_, ar2.go (grow_same fun a ha => nF2 a ha) fun _ _ => rfl⟩, ndC, fun a ha => ⟨List.mem_append_right _ (subC a ha).1, ?_⟩, fun b o h => ?_⟩
      · by_cases z : b ∈ B1
        · exact .inr (fr b (List.mem_append_left _ z)).1
        · rw [grow_not z] at h; exact st2.fn b o h
      · show Res K _ _ (false, r.2) v []
        rw [Res.ff]
        exact ⟨rfl, re2.rep (grow_same fun a ha => nF2 a ha) fun a ha o e => by rw [grow_mem ha]; exact e⟩
      · rw [grow_not fun z => n3 a z a (subC a ha).1 rfl]; exact (subC a ha).2
      · by_cases z : b ∈ B1
        · exact .inr (List.mem_append_left _ z)
        · rw [grow_not z] at h; exact (srcF b o h).imp id fun z => List.mem_append_right _ z
theorem ArgsR.len {K : PySem.W.Frag} {F H : Hp} {σ : St} : ∀ {as : List Arg} {vs : List V} {A : List Addr}, ArgsR K F H σ as vs A → vs.length = as.length
  | [], _, _, h => by obtain ⟨rfl, _⟩ := h; rfl
  | .val r :: as, _, _, h => by obtain ⟨v, us, B, C, rfl, rfl, _, p⟩ := h; simp [ArgsR.len p]
  | .slot i :: as, _, _, h => by obtain ⟨v, us, rfl, _, p⟩ := h; simp [ArgsR.len p]
def sqSets (js : List Nat) (bs : List Bool) (τs : TQL) : TSQ := fun D env => τs env fun as e => ∃ rs, allVals as = some rs ∧ rs.length = js.length ∧ D.nx (setAll e js (frzM bs rs))
theorem sets_go {σ : St} {D : Ends} {H F : Hp} {A : Addr → Prop} {E : DQ} {env : Env} {js : List Nat} {bs : List Bool} {vs : List V} {H1 : Hp} {rs : List R} (ad : Ads X.K pn σ H F A D E) (O : OutL X.K σ H F A (rs.map .val) env vs H1) (q : E.nx (setAll env js (frzM bs rs))) (hp : ∀ i ∈ pn, i ∉ js)
    {p : Addr} {o : HO} (n : H1 p = none) : D.nx (setAllS σ js vs) H1 ∧ D.nx (setAllS σ js vs) (upd H1 p o) := by
  obtain ⟨F1, A1, B, S1, st1, ar, nd, fr⟩ := O
  obtain ⟨F2, B2, S2, st2, sm, ar2, nd2, sub2, _⟩ := args_frz (bs := bs) S1 st1 ar nd fr
  have fr2 : ∀ a ∈ B2, ¬ A1 a ∧ F2 a = none := fun a ha => ⟨(fr a (sub2 a ha).1).2.1, (sub2 a ha).2⟩
  have fr0 : ∀ a ∈ B2, H a = none ∨ A a := fun a ha => (fr a (sub2 a ha).1).1
  have S3 := SR.setAll (js := js) S2 ar2 nd2 fr2
  refine ⟨ad.nx _ _ _ q ⟨F2, _, S3, st2.wide fr0, setAllS_pin hp⟩, ad.nx _ _ _ q ⟨F2, _, S3.new n, (st2.wide fr0).trans (Step.new n), setAllS_pin hp⟩⟩
theorem qs_par {i j : Nat} {bs : List Bool} (h : PS X st (tPar i j (liftL X.K τs))) (hp : ∀ k ∈ pn, k ∉ [i, j] := by simp) : QS X pn st (sqSets [i, j] bs τs) := by
  refine weakS h fun D σ H ⟨F, A, env, E, S, h, ad⟩ => ?_
  refine lift_args S h fun as e1 vs H1 q1 O => ?_
  obtain ⟨rs, e, hl, q⟩ := q1
  cases allVals_eq e
  have hv : vs.length = 2 := by obtain ⟨_, _, _, _, _, ar, _⟩ := O; have := ar.len; simp at this; rw [this, hl]; rfl
  obtain ⟨v, w, rfl⟩ : ∃ v w, vs = [v, w] := by
    match vs, hv with
    | [v, w], _ => exact ⟨v, w, rfl⟩
  refine ⟨v, w, rfl, ?_⟩
  obtain ⟨F1, A1, B, S1, st1, ar, nd, fr⟩ := O
  obtain ⟨F2, B2, S2, st2, sm, ar2, nd2, sub2, _⟩ := args_frz (bs := bs) S1 st1 ar nd fr
  exact ad.nx _ _ _ q ⟨F2, _, SR.setAll (js := [i, j]) S2 ar2 nd2 fun a ha => ⟨(fr a (sub2 a ha).1).2.1, (sub2 a ha).2⟩, st2.wide fun a ha => (fr a (sub2 a ha).1).1, setAllS_pin (js := [i, j]) (vs := [v, w]) hp⟩
/-- .. by way of a tuple -/
def gNames : List Nat → TGs
  | [] => gNil
  | j :: js => gCons (gName j) (gNames js)
theorem gNames_go {Qk : St → Hp → Prop} : ∀ {js : List Nat} {vs : List V} {σ : St} {H : Hp}, vs.length = js.length → Qk (setAllS σ js vs) H → gNames js vs σ H Qk
  | [], [], σ, H, _, q => ⟨rfl, q⟩
  | [], v :: vs, σ, H, hl, _ => by simp at hl
  | j :: js, [], σ, H, hl, _ => by simp at hl
  | j :: js, v :: vs, σ, H, hl, q => ⟨v, vs, rfl, gNames_go (js := js) (by simpa using hl) q⟩
theorem qs_tupSet {js : List Nat} {bs : List Bool} {n : Nat} (h : PS X st (tAsg (tTup (liftL X.K τs)) (gTup X.K n (gNames js)))) (hn : n = js.length) (hn2 : n ≤ 100) (hp : ∀ k ∈ pn, k ∉ js := by simp) : QS X pn st (sqSets js bs τs) := by
  refine weakS h fun D σ H ⟨F, A, env, E, S, h, ad⟩ => ?_
  refine lift_args S h fun as e1 vs H1 q1 O => ?_
  obtain ⟨rs, e, hl, q⟩ := q1
  cases allVals_eq e
  have hv : vs.length = js.length := by obtain ⟨_, _, _, _, _, ar, _⟩ := O; have := ar.len; simp at this; rw [this, hl]
  refine ⟨Nat.le_of_lt (big_line (by omega)), fun p np => ⟨p, vs, rfl, .of upd_same, by omega, gNames_go hv ?_⟩⟩
  exact (sets_go ad O q hp np).2
end

/-! ### dict comprehensions, each key new -/
def lcD (γ : TGQ) (tt : TQB) (τk τ : TQ) (vs : List Nat) : List T → List Key → List R → Env → (List Key → List R → Env → Prop) → Prop
  | [], ks, acc, env, Q => Q ks acc env
  | t :: ts, ks, acc, env, Q => γ t env fun e1 => tt e1 fun b e2 => if b = true then τk e2 fun rk e3 => τ e3 fun r e4 => ∃ k, rk.2.key? = some k ∧ kidx k ks = none ∧ lcD γ tt τk τ vs ts (ks ++ [k]) (acc ++ [r]) (wipeE e4 vs) Q else lcD γ tt τk τ vs ts ks acc (wipeE e2 vs) Q
def tqDc (τi : TQI) (γ : TGQ) (tt : TQB) (τk τ : TQ) (vs : List Nat) : TQ := fun env Q => τi env fun ts e1 => ts.length ≤ 1000000 ∧ lcD γ tt τk τ vs ts [] [] (wipeE e1 vs) fun ks acc e2 => Q (acc.all okO, .dct ks (acc.map (·.2))) (restE e1 e2 vs)
section
variable {X : Cx} {tg iter kx elt : Expr} {ifs : List Expr} {scope : Scope} {own : List (Str × Nat)} {pos : Pos} {ws : List Nat} {τi : TQI} {γ : TGQ} {tt : TQB} {τk τ : TQ}
theorem dc_read (hws : ∀ i ∈ ws, i ∈ own.map (·.2)) {σ : St} {H : Hp} {Rk : VK} (h : lift X.K (tqDc τi γ tt τk τ (own.map (·.2))) σ H Rk) :
    tDc (liftI X τi) (liftG X.K ws γ) (liftT X.K tt) (lift X.K τk) (lift X.K τ) (own.map (·.2)) σ H (fun v H' => UO X (Rk v) H') := by
  obtain ⟨F, A, env, Q, S, h, k⟩ := h
  refine ⟨F, A, env, _, S, h, fun ts e1 J H' q O D hD => ?_⟩
  obtain ⟨F1, H1, F2, A1, L, S1, st1, l, it⟩ := O
  obtain ⟨hsz, q⟩ := q
  have S2 := l.same S1
  have fD : F2 D = none := S2.fnone hD
  have aD : ¬ A1 D := fun z => S2.ah D z hD
  refine ⟨fun i m H3 => m + i = ts.length ∧ ∃ (F3 : Hp) (A3 : Addr → Prop) (e3 : Env) (ks : List Key) (acc : List R) (us : List V) (B : List Addr), SR X.K (wipe σ (own.map (·.2))) H3 F3 A3 e3 ∧ Step H' F2 A1 H3 F3 A3 ∧ H3 D = some (.dK (ks.zip us)) ∧ ks.length = us.length ∧ ¬ A3 D ∧ F3 D = none ∧
      ArgsR X.K F3 H3 σ (acc.map .val) us B ∧ B.Nodup ∧ D ∉ B ∧ (∀ a ∈ B, (H' a = none ∨ A1 a) ∧ ¬ A3 a ∧ F3 a = none) ∧ acc.length ≤ i ∧ lcD γ tt τk τ (own.map (·.2)) (ts.drop i) ks acc e3 fun ks acc e2 => Q (acc.all okO, .dct ks (acc.map (·.2))) (restE e1 e2 (own.map (·.2))), ?_, ?_⟩
  · refine ⟨ts.length, by omega, F2, A1, _, [], [], [], [], (S2.wipe _).aside aD fD, Step.new hD, upd_same, rfl, aD, fD, ⟨rfl, rfl⟩, List.nodup_nil, by simp, by simp, Nat.le_refl _, q⟩
  · rintro i m H3 ⟨hm, F3, A3, e3, ks, acc, us, B, S3, st3, hD3, hku, aD3, fD3, ar, nB, dB, fB, hl, q3⟩
    obtain ⟨stop, go⟩ := it H3 F3 st3.ff S3.fh
    by_cases hlt : i < ts.length
    · obtain ⟨g, y⟩ := go i ts[i] (List.getElem?_eq_getElem hlt)
      rw [List.drop_eq_getElem_cons hlt] at q3
      refine .inr ⟨g, fun H4 => ∃ (F4 : Hp) (A4 : Addr → Prop) (e4 : Env) (ks : List Key) (acc : List R) (us : List V) (B : List Addr), SR X.K (wipe σ (own.map (·.2))) H4 F4 A4 e4 ∧ Step H' F2 A1 H4 F4 A4 ∧ H4 D = some (.dK (ks.zip us)) ∧ ks.length = us.length ∧ ¬ A4 D ∧ F4 D = none ∧
        ArgsR X.K F4 H4 σ (acc.map .val) us B ∧ B.Nodup ∧ D ∉ B ∧ (∀ a ∈ B, (H' a = none ∨ A1 a) ∧ ¬ A4 a ∧ F4 a = none) ∧ acc.length ≤ i + 1 ∧ lcD γ tt τk τ (own.map (·.2)) (ts.drop (i + 1)) ks acc e4 fun ks acc e2 => Q (acc.all okO, .dct ks (acc.map (·.2))) (restE e1 e2 (own.map (·.2))), fun H4 w => ⟨m - 1, by omega, by omega, w⟩, fun x H4 yx => ?_⟩
      obtain ⟨fl, n⟩ := y x H4 yx
      obtain ⟨F4, A4, S4, st4, re4⟩ := (Out.new S3 n).sh
      have keep : ∀ {H5 F5 : Hp} {A5 : Addr → Prop}, Step H3 F3 A3 H5 F5 A5 → H5 D = some (.dK (ks.zip us)) ∧ ¬ A5 D ∧ F5 D = none ∧ (∀ a ∈ B, H5 a = H3 a) ∧ (∀ a ∈ B, (H' a = none ∨ A1 a) ∧ ¬ A5 a ∧ F5 a = none) := by
        intro H5 F5 A5 st
        refine ⟨st.hh _ _ hD3 aD3, fun z => (st.an D z).elim aD3 fun z => (by rw [hD3] at z; cases z), st.stays fD3 (by rw [hD3]; simp) aD3, fun a ha => ?_, fun a ha => ⟨(fB a ha).1, fun z => (st.an a z).elim (fB a ha).2.1 fun z => ar.there a ha z, st.stays (fB a ha).2.2 (ar.there a ha) (fB a ha).2.1⟩⟩
        · cases z : H3 a with
          | none => exact absurd z (ar.there a ha)
          | some o => exact st.hh a o z (fB a ha).2.1
      refine ⟨F4, A4, e3, ts[i], _, S4, re4, q3, fun e5 σ5 q5 S5 p5 => ?_⟩
      have hw : wipe σ5 (own.map (·.2)) = wipe σ (own.map (·.2)) := by
        apply List.ext_getElem?
        intro j
        by_cases hj : j ∈ own.map (·.2)
        · have e1 : ∀ (σ' : St), σ'.length = σ.length → (wipe σ' (own.map (·.2)))[j]? = if j < σ.length then some none else none := by
            intro σ' hl'
            by_cases hj2 : j < σ.length
            · rw [if_pos hj2]
              cases z : (wipe σ' (own.map (·.2)))[j]? with
              | none => have := List.getElem?_eq_none_iff.mp z; rw [wipe_length] at this; omega
              | some o =>
                cases o with
                | none => rfl
                | some x => exact absurd hj (wipe_some z).2
            · rw [if_neg hj2]
              exact List.getElem?_eq_none (by rw [wipe_length]; omega)
          rw [e1 σ5 (by rw [p5.1, wipe_length]), e1 σ rfl]
        · rw [wipe_get hj, p5.2 j (fun z => hj (hws j z))]
      refine ⟨hw, liftT_go S5 q5 fun b e6 H6 F6 A6 q6 S6 st6 => ?_⟩
      cases b with
      | false =>
        rw [if_neg Bool.false_ne_true] at q6 ⊢
        have st := st4.trans st6
        obtain ⟨k1, k2, k3, k4, k5⟩ := keep st
        have S7 := S6.wipe (own.map (·.2))
        rw [hw] at S7
        exact ⟨F6, A6, _, ks, acc, us, B, S7, st3.trans st, k1, hku, k2, k3, ar.go st.ff k4, nB, dB, k5, by omega, q6⟩
      | true =>
        rw [if_pos rfl] at q6 ⊢
        refine lift_sh S6 q6 fun rk e7 vk H7 F7 A7 q7 S7 st7 rek => lift_own S7 q7 fun r e8 v H8 q8 ⟨F8, A8, C, S8, st8, re, nd, fr⟩ => ?_
        obtain ⟨key, ek, en, q8⟩ := q8
        have st67 := (st4.trans st6).trans st7
        have st := st67.trans st8
        obtain ⟨k1, k2, k3, k4, k5⟩ := keep st
        have arL : us.length = acc.length := by
          have z := ar.len
          simpa using z
        have dC : D ∉ C := fun z => by
          rcases (fr D z).1 with w | w
          · rw [(keep st67).1] at w
            cases w
          · exact (keep st67).2.1 w
        rw [key_some ek] at rek
        refine ⟨ks.zip us, key, Rep.av_eq rek, k1, big_line (by rw [List.length_zip, ← hku, Nat.min_self]; omega), ?_⟩
        rw [putK_new v (valV_none (kidx_none en)), zip_snoc hku]
        have S9 := (S8.wipe (own.map (·.2))).aside (D := D) (o := .dK ((ks ++ [key]).zip (us ++ [v]))) k2 k3
        rw [hw] at S9
        have st9 : Step H' F2 A1 (upd H8 D (.dK ((ks ++ [key]).zip (us ++ [v])))) F8 A8 := by
          have s0 := st3.trans st
          refine ⟨s0.ff, fun b o e n => ?_, fun b e => ?_, s0.an, s0.fn⟩
          · rw [upd_ne (fun z => by rw [z, hD] at e; cases e)]; exact s0.hh b o e n
          · by_cases z : b = D
            · rw [z, upd_same]; simp
            · rw [upd_ne z]; exact s0.dom b e
        refine ⟨F8, A8, _, ks ++ [key], acc ++ [r], us ++ [v], B ++ C, S9, st9, upd_same, by simp [hku], k2, k3, ?_, ?_, ?_, ?_, ?_, q8⟩
        · rw [List.map_append]
          refine ((ar.go st.ff k4).snoc re).go (.refl _) fun a ha => upd_ne fun z => ?_
          rcases List.mem_append.mp ha with ha | ha
          · exact dB (z ▸ ha)
          · exact dC (z ▸ ha)
        · refine List.nodup_append.mpr ⟨nB, nd, fun a ha b hb e => ?_⟩
          subst e
          rcases (fr a hb).1 with z | z
          · rw [(keep st67).2.2.2.1 a ha] at z
            exact ar.there a ha z
          · exact ((keep st67).2.2.2.2 a ha).2.1 z
        · simp only [List.mem_append, not_or]; exact ⟨dB, dC⟩
        · intro a ha
          rcases List.mem_append.mp ha with ha | ha
          · exact k5 a ha
          · exact ⟨(st3.trans st67).src (fr a ha).1, (fr a ha).2⟩
        · simp only [List.length_append, List.length_singleton]; omega
    · rw [List.drop_eq_nil_of_le (by omega)] at q3
      refine .inl ⟨stop i (by omega), ?_⟩
      have q3 : Q (acc.all okO, .dct ks (acc.map (·.2))) (restE e1 e3 (own.map (·.2))) := q3
      have S5 : SR X.K σ H3 F3 A3 (restE e1 e3 (own.map (·.2))) := S3.rest S2 st3.ff
      cases ho : acc.all okO with
      | true =>
        have ow : Own H3 (.ref D) (.dct ks (acc.map (·.2))) (D :: B) := by
          simp only [Own]
          exact ⟨D, us, B, rfl, rfl, hD3, hku, ar.own ho⟩
        refine l.backR (r := (true, .dct ks (acc.map (·.2)))) (v := .ref D) (Ar := D :: B) S5 st3 S1.fh (by rw [Res.tt]; exact ow) (List.nodup_cons.mpr ⟨dB, nB⟩) (fun a ha => ?_) fun H4 F4 S4 st4 re4 fr4 => ?_
        · rcases List.mem_cons.mp ha with rfl | ha
          · exact ⟨.inl hD, aD3, fD3⟩
          · exact fB a ha
        · refine k _ _ _ _ q3 (Out.after st1 ⟨F4, A3, D :: B, S4, st4, ?_, List.nodup_cons.mpr ⟨dB, nB⟩, fr4⟩)
          rw [ho]
          exact re4
      | false =>
        have fr : ∀ a ∈ D :: B, (H' a = none ∨ A1 a) ∧ ¬ A3 a ∧ F3 a = none := fun a ha => by
          rcases List.mem_cons.mp ha with rfl | ha
          · exact ⟨.inl hD, aD3, fD3⟩
          · exact fB a ha
        have re : Rep X.K (grow F3 H3 (D :: B)) (.ref D) (.dct ks (acc.map (·.2))) := by
          simp only [Rep]
          refine ⟨D, us, rfl, .inl (by rw [grow_mem (by simp)]; exact hD3), hku, ?_⟩
          exact ar.rep (grow_same fun a ha => (fr a ha).2.2) (fun a ha o e => by rw [grow_mem (List.mem_cons_of_mem _ ha)]; exact e) (vals_map acc)
        have st5 : Step H' F2 A1 H3 (grow F3 H3 (D :: B)) A3 := ⟨st3.ff.trans (grow_same fun a ha => (fr a ha).2.2), st3.hh, st3.dom, st3.an, fun b o h => by
          by_cases z : b ∈ D :: B
          · exact .inr (fr b z).1
          · rw [grow_not z] at h; exact st3.fn b o h⟩
        refine l.backR (r := (false, .dct ks (acc.map (·.2)))) (v := .ref D) (Ar := []) (S5.grow fun a ha => ⟨(fr a ha).2.2, (fr a ha).2.1⟩) st5 S1.fh (by rw [Res.ff]; exact ⟨rfl, re⟩) List.nodup_nil (by simp) fun H4 F4 S4 st4 re4 fr4 => ?_
        refine k _ _ _ _ q3 (Out.after st1 ⟨F4, A3, [], S4, st4, ?_, List.nodup_nil, by simp⟩)
        rw [ho]
        exact re4
theorem q_dc (hc : X.calm = true) (hN : X.N.Nodup) (hi : QI X tg iter τi) (ok : BlkOk X.N X.env.scope scope own)
    (hg : ∀ (s : Shared) (H : Hp) (C : Addr) (cl : List (Str × Addr)) (fp : List Addr), QG (X.blk s H scope (compEnvC scope cl C X.env) fp) tg ws γ) (ht : ∀ (s : Shared) (H : Hp) (C : Addr) (cl : List (Str × Addr)) (fp : List Addr), QTs (X.blk s H scope (compEnvC scope cl C X.env) fp) ifs tt)
    (hk : ∀ (s : Shared) (H : Hp) (C : Addr) (cl : List (Str × Addr)) (fp : List Addr), QE (X.blk s H scope (compEnvC scope cl C X.env) fp) kx τk)
    (he : ∀ (s : Shared) (H : Hp) (C : Addr) (cl : List (Str × Addr)) (fp : List Addr), QE (X.blk s H scope (compEnvC scope cl C X.env) fp) elt τ) (hws : ∀ i ∈ ws, i ∈ own.map (·.2) := by decide) (hs : ∀ x, foldedSetIterable iter X.env x = pure x := by intro _; rfl) :
    QE X (.DictComp kx elt [⟨tg, iter, ifs, 0⟩] scope pos) (tqDc τi γ tt τk τ (own.map (·.2))) :=
  weakE (pe_unlk (pe_dc (g := liftG X.K ws γ) (tt := liftT X.K tt) (tk := lift X.K τk) (tv := lift X.K τ) hc hN hi ok hg ht hk he hs)) fun σ H Rk h => dc_read hws h
end

/-! ### more of lists -/
section
variable {X : Cx} {e : Expr} {es : List Expr} {τ : TQ} {τs : TQL} {pos p apos cpos : Pos}
def tqRev (τ : TQ) : TQ := fun env Q => τ env fun r e1 => ∃ ts, r.2 = .lst ts ∧ Q (mkL ts.reverse) e1
theorem q_rev {k : Nat} {p1 p2 p3 : Pos} (he : QE X e τ) : QE X (.Subscript e (.Slice none none (some (.UnaryOp .USub (.Constant (.int 1) k p1) p2)) p3) pos) (tqRev τ) := by
  refine weakE (pe_revL he) fun σ H Rk ⟨F, A, env, Q, S, h, k⟩ => ?_
  refine lift_sh S h fun r e1 v H1 F1 A1 q S1 st1 re => ?_
  obtain ⟨ts, er, q⟩ := q
  rw [er] at re
  simp only [Rep] at re
  obtain ⟨a, vs, rfl, ha, rl⟩ := re
  exact ⟨a, vs, rfl, .of (S1.fh _ _ ha), fun p n => k _ _ _ _ q ((Out.new S1 (New.lst S1.fh rl.reverse n)).after st1)⟩
/-- xs.count(x) of texts -/
theorem eqV_strs {x : Str} : ∀ {xs : List Str} {us : List Value}, Vals (xs.map V.str) us → us.countP (eqU (.str x)) = xs.count x
  | [], us, r => by cases r; rfl
  | y :: ys, us, r => by
    cases r with
    | cons ru rr =>
      rename_i u us'
      rw [List.countP_cons, eqV_strs rr, List.count_cons]
      rw [eqU_of (y := .str y) ru rfl]
      rfl
theorem mt_countS {X : Cx} : MtR X "list.count" (fun x vs H Q => ∃ (l : Addr) (xs : List Str) (y : Str), x = .ref l ∧ vs = [.str y] ∧ SqL X.K H l (xs.map V.str) ∧ Q (.int (xs.count y)) H) := by
  intro pins s σ H x xs v us Q I rx rxs h
  obtain ⟨p, ss, y, rfl, rfl, hs, q⟩ := h
  cases rx
  obtain ⟨u, rfl, ru⟩ := rxs.one
  obtain ⟨its, rv, ⟨⟨cls, dd, data, sl⟩, n, ho, hc, hdn, hd⟩, hlen⟩ := I.list hs
  simp only at hc hd
  subst hc hd
  have fl : (ss.map V.str).all flatV = true := by simp [flatV]
  refine call_meets PySem.F.slot_list_count ⟨_, ho, rfl⟩ PySem.F.entry_list_count (PySem.F.args_list_count_2 _ _)
    (SeqAt.list_countAt p its.toArray n dd sl u (eqU (.str y))) ⟨ho, fun z hz => mem_eqAt ru rfl rv fl z (by simpa using hz), ?_⟩
  have ec : its.toArray.toList.countP (eqU (.str y)) = ss.count y := eqV_strs rv
  rw [ec]
  exact ⟨.int (ss.count y), H, I.tok _, ⟨_, rfl⟩, q⟩
def roCount : T → List T → RK → Prop := fun t ts Q => ∃ (xs : List Str) (y : Str), t = .lst (xs.map T.str) ∧ ts = [.str y] ∧ Q (false, .int (xs.count y))
/-- a method of a list, read only: all values -/
def tqBM (ρ : T → List T → RK → Prop) (τo : TQ) (τs : TQL) : TQ := fun env Q => τo env fun ro e1 => (∃ us, ro.2 = .lst us) ∧ τs e1 fun rs e2 => ∃ ts, vals rs = some ts ∧ ρ ro.2 ts fun rr => Q rr e2
theorem q_count {o e1 : Expr} {τo : TQ} (ho : QE X o τo) (ha : QA X (e1 :: es) τs)
    (hbase : attributeBase o "count" X.env (eval o X.env) = eval o X.env := by rfl)
    (hfew : ((backTo cpos (starEach (e1 :: es) X.env)).all (fun x => !x.1) && (backToKw cpos (keywordEach [] X.env)).all (fun x => x.1.isSome)
      && decide ((e1 :: es).length + ([] : List Keyword).length + (if ([] : List Keyword).isEmpty then 0 else 1) < 30)) = true := by rfl)
    (hline : (apos.endLine == cpos.line) = true := by rfl) (hs : starEach (e1 :: es) X.env = (false, eval e1 X.env) :: starEach es X.env := by rfl) (hplain : (backTo cpos (starEach es X.env)).any (·.1) = false := by rfl) :
    QE X (.Call (.Attribute o "count" apos) (e1 :: es) [] cpos) (tqBM roCount τo τs) := by
  refine weakE (pe_bm PySem.F.plainAttrs_list PySem.F.slot_list_count PySem.F.type_list_count mt_countS ho ha hbase hfew hline hs hplain) fun σ H Rk ⟨F, A, env, Q, S, h, k⟩ => ?_
  refine lift_sh S h fun ro e1 x H1 F1 A1 q S1 st1 re => ?_
  obtain ⟨⟨us, eu⟩, q⟩ := q
  rw [eu] at re
  simp only [Rep] at re
  obtain ⟨a, vs, rfl, ha, rl⟩ := re
  refine ⟨.inl ⟨rfl, vs, .of (S1.fh _ _ ha)⟩, lift_args S1 q fun rs e2 ws H2 q2 O => ?_⟩
  obtain ⟨ts, ev, xs, y, et, rfl, q2⟩ := q2
  obtain ⟨F2, A2, S2, st2, r2⟩ := O.sh ev
  rw [eu] at et
  cases et
  cases repL_strs rl
  simp only [RepL, Rep] at r2
  obtain ⟨_, _, rfl, rfl, rfl⟩ := r2
  exact ⟨a, xs, y, rfl, rfl, .of (S2.fh _ _ (st2.ff _ _ ha)), k _ _ _ _ q2 ((Out.av S2 .refl).after (st1.trans st2))⟩
/-- xs.remove(x) of scalars, x is there -/
theorem mt_removeV {X : Cx} : MtR X "list.remove" (fun x vs H Q => ∃ (l : Addr) (ys : List V) (y : V) (j : Nat) (z : V), x = .ref l ∧ vs = [y] ∧ H l = some (.lst ys) ∧ flatV y = true ∧ ys.all flatV = true ∧ ys[j]? = some z ∧ eqV z y = true ∧ (∀ (m : Nat) (z' : V), m < j → ys[m]? = some z' → eqV z' y = false) ∧
    Q .non (upd H l (.lst (ys.eraseIdx j)))) := by
  intro pins s σ H x xs v us Q I rx rxs h
  obtain ⟨a, ys, y, j, z, rfl, rfl, hs, fy, fys, hz, hzj, hno, q⟩ := h
  cases rx
  cases rxs with
  | cons ry rt =>
    rename_i uy ut
    cases rt
    obtain ⟨hlen, its, n, rv, hl, ho⟩ := I.lstM hs
    obtain ⟨u, hu, ru⟩ := rv.get hz
    obtain ⟨hjl, hje⟩ := List.getElem?_eq_some_iff.mp hu
    have hj : j < its.toArray.size := by simpa using hjl
    have hsl := sizeLine_eq
    refine call_meets PySem.F.slot_list_remove ⟨_, ho, rfl⟩ PySem.F.entry_list_remove (PySem.F.args_list_remove_2 _ _)
      (SeqAt.list_removeAt a its.toArray n none #[] uy (eqU y) j hj ?_ ?_ (by rw [List.size_toArray]; omega)) ⟨ho, fun u' hu' => mem_eqAt ry fy rv fys u' (by simpa using hu'), ?_⟩
    · have e1 : its.toArray[j] = u := by simpa using hje
      rw [e1, eqU_of ru (flat_at fys hz)]
      exact hzj
    · intro m hm hmj
      have hml : m < its.length := by simpa using hm
      have hmy : m < ys.length := by omega
      have hy' : ys[m]? = some ys[m] := List.getElem?_eq_getElem hmy
      obtain ⟨u2, hu2, ru2⟩ := rv.get hy'
      obtain ⟨_, hme⟩ := List.getElem?_eq_some_iff.mp hu2
      have e1 : its.toArray[m] = u2 := by simpa using hme
      rw [e1, eqU_of ru2 (flat_at fys hy')]
      exact hno m _ hmj hy'
    · refine ⟨.non, _, I.lset (its' := its.eraseIdx j) hs ho ?_ (rv.eraseIdx j) ?_, rfl, q⟩
      · show its.toArray.eraseIdxIfInBounds j = (its.eraseIdx j).toArray
        rw [List.eraseIdxIfInBounds_toArray]
      · have := len_erase ys j; omega
def muRemove : List T → List T → (List T → V → Prop) → Prop := fun ts as Q => ∃ (xs : List Str) (y : Str), ts = xs.map T.str ∧ as = [.str y] ∧ y ∈ xs ∧ Q ((xs.erase y).map T.str) .non
theorem first_atS : ∀ {ns : List Str} {k : Str}, k ∈ ns → ∃ j, ns[j]? = some k ∧ (∀ i, i < j → ns[i]? ≠ some k) ∧ ns.eraseIdx j = ns.erase k
  | [], k, h => absurd h (by simp)
  | a :: r, k, h => by
    by_cases e : a = k
    · exact ⟨0, by rw [e]; rfl, fun i hi => absurd hi (Nat.not_lt_zero _), by rw [e, List.erase_cons_head]; rfl⟩
    · obtain ⟨j, h2, h3, h4⟩ := first_atS ((List.mem_cons.mp h).resolve_left fun z => e z.symm)
      refine ⟨j + 1, h2, fun i hi => ?_, by rw [List.erase_cons_tail (by simpa using e), ← h4]; rfl⟩
      cases i with
      | zero => intro z; exact e (Option.some.inj z)
      | succ i => exact h3 i (Nat.lt_of_succ_lt_succ hi)
theorem ownL_strs {H : Hp} : ∀ {xs : List Str} {vs : List V} {B : List Addr}, OwnL H vs (xs.map T.str) B → vs = xs.map V.str ∧ B = []
  | [], vs, B, h => by simpa only [List.map_nil, OwnL] using h
  | x :: xs, vs, B, h => by
    simp only [List.map_cons, OwnL, Own] at h
    obtain ⟨v, r, B1, B2, rfl, rfl, ⟨rfl, rfl⟩, p⟩ := h
    obtain ⟨rfl, rfl⟩ := ownL_strs p
    simp
theorem strs_ownL {H : Hp} : ∀ {xs : List Str}, OwnL H (xs.map V.str) (xs.map T.str) []
  | [] => by simp [OwnL]
  | x :: xs => by
    simp only [List.map_cons, OwnL, Own]
    exact ⟨_, _, [], [], rfl, rfl, ⟨rfl, rfl⟩, strs_ownL⟩
theorem eraseIdx_mapS : ∀ (ns : List Str) (j : Nat), (ns.map V.str).eraseIdx j = (ns.eraseIdx j).map V.str
  | [], _ => rfl
  | _ :: _, 0 => rfl
  | n :: r, j + 1 => by simp [eraseIdx_mapS r j]
theorem lop_remove : LOp (fun x vs H Q => ∃ (l : Addr) (ys : List V) (y : V) (j : Nat) (z : V), x = .ref l ∧ vs = [y] ∧ H l = some (.lst ys) ∧ flatV y = true ∧ ys.all flatV = true ∧ ys[j]? = some z ∧ eqV z y = true ∧ (∀ (m : Nat) (z' : V), m < j → ys[m]? = some z' → eqV z' y = false) ∧
    Q .non (upd H l (.lst (ys.eraseIdx j)))) muRemove := by
  intro H l vs ts B us as C Rk Q hl ol oc nd h k
  obtain ⟨xs, y, rfl, rfl, hy, q⟩ := h
  obtain ⟨rfl, rfl⟩ := ownL_strs ol
  simp only [OwnL, Own] at oc
  obtain ⟨u, r, B1, B2, rfl, rfl, ⟨rfl, rfl⟩, rfl, rfl⟩ := oc
  obtain ⟨j, h1, h2, h3⟩ := first_atS hy
  refine ⟨l, _, .str y, j, .str y, rfl, rfl, hl, rfl, by simp [flatV], by rw [List.getElem?_map, h1]; rfl, by simp [eqV], fun m z' hm hz => ?_, ?_⟩
  · rw [List.getElem?_map] at hz
    cases e : xs[m]? with
    | none => rw [e] at hz; cases hz
    | some w =>
      rw [e] at hz
      cases hz
      simp only [eqV, beq_eq_false_iff_ne, ne_eq]
      intro z
      exact h2 m hm (by rw [e, z])
  · have e1 : (xs.map V.str).eraseIdx j = (xs.erase y).map V.str := by rw [← h3]; exact eraseIdx_mapS xs j
    rw [e1]
    exact k _ _ _ _ q strs_ownL List.nodup_nil (by simp)
end

/-! ### dict([(k, v), ..]) -/
def pairsOf : List T → Option (List Key × List T)
  | [] => some ([], [])
  | .tup [a, b] :: ts => match a.key?, pairsOf ts with
    | some k, some (ks, us) => some (k :: ks, b :: us)
    | _, _ => none
  | _ :: _ => none
theorem mergeK_new : ∀ {ks : List Key} {vs : List V} {acc : List (Key × V)}, ks.length = vs.length → ks.Nodup → (∀ k ∈ ks, valV acc k = none) → mergeK acc (ks.zip vs) = acc ++ ks.zip vs
  | [], vs, acc, _, _, _ => by simp [mergeK]
  | k :: ks, [], acc, hl, _, _ => by simp at hl
  | k :: ks, v :: vs, acc, hl, nd, hn => by
    obtain ⟨n1, n2⟩ := List.nodup_cons.mp nd
    rw [List.zip_cons_cons]
    show mergeK (putK acc k v) (ks.zip vs) = _
    rw [putK_new v (hn k List.mem_cons_self), mergeK_new (by simpa using hl) n2 fun k' hk' => ?_]
    · simp
    · rw [valV_snoc _ _ _ _ (hn k List.mem_cons_self), if_neg (fun (z : k' = k) => n1 (by rw [← z]; exact hk'))]
      exact hn k' (List.mem_cons_of_mem _ hk')
theorem pairs_rep {K : PySem.W.Frag} {F : Hp} : ∀ {ts : List T} {vs : List V} {ks : List Key} {us : List T}, RepL K F vs ts → pairsOf ts = some (ks, us) → ∃ (ps : List Addr) (ws : List V), vs = ps.map V.ref ∧ ks.length = ws.length ∧ RepL K F ws us ∧ Paired (fun p (kv : Key × V) => F p = some (.tup [kV kv.1, kv.2])) ps (ks.zip ws)
  | [], vs, ks, us, r, e => by
    simp only [RepL] at r
    cases e
    exact ⟨[], [], r, rfl, by simp [RepL], .nil⟩
  | .tup [a, b] :: ts, vs, ks, us, r, e => by
    simp only [RepL, Rep] at r
    obtain ⟨_, r', rfl, ⟨p, vv, rfl, hp, va, r2, rfl, ra, vb, r3, rfl, rb, rfl⟩, rl⟩ := r
    unfold pairsOf at e
    split at e
    · rename_i k ks' us' e1 e2
      cases e
      obtain ⟨ps, ws, rfl, hl, rw', pr⟩ := pairs_rep rl e2
      rw [key_some e1] at ra
      cases Rep.av_eq ra
      refine ⟨p :: ps, vb :: ws, rfl, by simp [hl], by simp only [RepL]; exact ⟨vb, ws, rfl, rb, rw'⟩, ?_⟩
      rw [List.zip_cons_cons]
      exact .cons hp pr
    · cases e
  | .tup [] :: ts, vs, ks, us, r, e => by simp [pairsOf] at e
  | .tup [a] :: ts, vs, ks, us, r, e => by simp [pairsOf] at e
  | .tup (a :: b :: c :: d) :: ts, vs, ks, us, r, e => by simp [pairsOf] at e
  | .av _ :: ts, vs, ks, us, r, e => by simp [pairsOf] at e
  | .lst _ :: ts, vs, ks, us, r, e => by simp [pairsOf] at e
  | .dct _ _ :: ts, vs, ks, us, r, e => by simp [pairsOf] at e
  | .dtt _ _ :: ts, vs, ks, us, r, e => by simp [pairsOf] at e
  | .obj _ _ _ :: ts, vs, ks, us, r, e => by simp [pairsOf] at e
  | .rd _ :: ts, vs, ks, us, r, e => by simp [pairsOf] at e
theorem pairs_own {H : Hp} : ∀ {ts : List T} {vs : List V} {ks : List Key} {us : List T} {B : List Addr}, OwnL H vs ts B → pairsOf ts = some (ks, us) → ∃ (ps : List Addr) (ws : List V) (C : List Addr), vs = ps.map V.ref ∧ ks.length = ws.length ∧ OwnL H ws us C ∧ (B.Nodup → C.Nodup) ∧ (∀ a ∈ C, a ∈ B) ∧ Paired (fun p (kv : Key × V) => H p = some (.tup [kV kv.1, kv.2])) ps (ks.zip ws)
  | [], vs, ks, us, B, r, e => by
    simp only [OwnL] at r
    obtain ⟨rfl, rfl⟩ := r
    cases e
    exact ⟨[], [], [], rfl, rfl, by simp [OwnL], fun h => h, by simp, .nil⟩
  | .tup [a, b] :: ts, vs, ks, us, B, r, e => by
    simp only [OwnL, Own] at r
    obtain ⟨_, r', B1, B2, rfl, rfl, ⟨p, vv, D, rfl, rfl, hp, va, r2, D1, D2, rfl, rfl, ra, vb, r3, D3, D4, rfl, rfl, rb, rfl, rfl⟩, rl⟩ := r
    unfold pairsOf at e
    split at e
    · rename_i k ks' us' e1 e2
      cases e
      obtain ⟨ps, ws, C, rfl, hl, rw', nC, sC, pr⟩ := pairs_own rl e2
      rw [key_some e1] at ra
      simp only [Own] at ra
      obtain ⟨rfl, rfl⟩ := ra
      refine ⟨p :: ps, vb :: ws, D3 ++ C, rfl, by simp [hl], by simp only [OwnL]; exact ⟨vb, ws, D3, C, rfl, rfl, rb, rw'⟩, fun nd => ?_, fun x hx => ?_, ?_⟩
      · obtain ⟨n1, n2, n3⟩ := List.nodup_append.mp nd
        simp only [List.nil_append, List.append_nil] at n1 n3
        refine List.nodup_append.mpr ⟨(List.nodup_cons.mp n1).2, nC n2, fun x hx y hy e => n3 x (List.mem_cons_of_mem _ hx) y (sC y hy) e⟩
      · rcases List.mem_append.mp hx with hx | hx
        · exact List.mem_append_left _ (by simp [hx])
        · exact List.mem_append_right _ (sC x hx)
      · rw [List.zip_cons_cons]
        exact .cons hp pr
    · cases e
  | .tup [] :: ts, vs, ks, us, B, r, e => by simp [pairsOf] at e
  | .tup [a] :: ts, vs, ks, us, B, r, e => by simp [pairsOf] at e
  | .tup (a :: b :: c :: d) :: ts, vs, ks, us, B, r, e => by simp [pairsOf] at e
  | .av _ :: ts, vs, ks, us, B, r, e => by simp [pairsOf] at e
  | .lst _ :: ts, vs, ks, us, B, r, e => by simp [pairsOf] at e
  | .dct _ _ :: ts, vs, ks, us, B, r, e => by simp [pairsOf] at e
  | .dtt _ _ :: ts, vs, ks, us, B, r, e => by simp [pairsOf] at e
  | .obj _ _ _ :: ts, vs, ks, us, B, r, e => by simp [pairsOf] at e
  | .rd _ :: ts, vs, ks, us, B, r, e => by simp [pairsOf] at e
section
variable {X : Cx} {e : Expr} {es : List Expr} {τ : TQ} {τs : TQL} {pos p apos cpos : Pos}
def tqDictP (τs : TQL) : TQ := fun env Q => τs env fun as e1 => ∃ r ts ks us, as = [.val r] ∧ r.2 = .lst ts ∧ pairsOf ts = some (ks, us) ∧ ks.Nodup ∧ Q (r.1, .dct ks us) e1
theorem q_dictP (hc : X.calm = true) (hg : Gl X "dict") (hm : X.mg "dict" = none) (ha : QA X (e :: es) τs) (he : starEach (e :: es) X.env = (false, eval e X.env) :: starEach es X.env := by rfl) (hpl : (backTo pos (starEach es X.env)).any (·.1) = false := by rfl) : QE X (.Call (.Name "dict" p) (e :: es) [] pos) (tqDictP τs) := by
  refine weakE (pe_callTy (call_dictP hc) hg hm (by decide +kernel) ha (by decide) (by decide) he hpl) fun σ H Rk ⟨F, A, env, Q, S, h, k⟩ => ?_
  refine lift_args S h fun as e1 vs H1 q O => ?_
  obtain ⟨⟨fl, t⟩, ts, ks, us, rfl, et, ep, nd, q⟩ := q
  simp only at et
  subst et
  obtain ⟨F1, A1, Ar, S1, st1, ar, ndA, fr⟩ := O
  obtain ⟨v, _, B, C, rfl, rfl, re, rfl, rfl⟩ := ar
  have pr2 : ∀ {F' : Hp} {ps : List Addr} {kvs : List (Key × V)}, Same F' H1 → Paired (fun p (kv : Key × V) => F' p = some (.tup [kV kv.1, kv.2])) ps kvs → Paired (fun p (kv : Key × V) => SqT X.K H1 p [kV kv.1, kv.2]) ps kvs := by
    intro F' ps kvs s pr
    induction pr with
    | nil => exact .nil
    | cons h _ ih => exact .cons (.of (s _ _ h)) ih
  have nn : ∀ b, H1 b = none → H b = none := fun b z => by
    cases y : H b with
    | none => rfl
    | some o => exact absurd z (st1.dom b (by simp [y]))
  cases fl with
  | true =>
    rw [Res.tt] at re
    simp only [Own] at re
    obtain ⟨l, vs, B', rfl, rfl, hl, ol⟩ := re
    obtain ⟨ps, ws, C, rfl, hkw, ow, nC, sC, pr⟩ := pairs_own ol ep
    refine ⟨l, ps, _, rfl, .of hl, pr2 (.refl _) pr, fun d nd1 => ?_⟩
    rw [mergeK_new hkw nd (fun _ _ => rfl), List.nil_append]
    simp only [List.append_nil] at ndA fr
    have hdC : d ∉ C := fun z => (ow.there d z) nd1
    have nd0 := (List.nodup_cons.mp ndA).2
    refine k _ _ _ _ q ⟨F1, A1, d :: C, S1.new nd1, st1.trans (Step.new nd1), ?_, List.nodup_cons.mpr ⟨hdC, nC nd0⟩, fun a ha => ?_⟩
    · rw [Res.tt]
      simp only [Own]
      exact ⟨d, ws, C, rfl, rfl, upd_same, hkw, ow.keep fun a ha => upd_ne fun (z : a = d) => hdC (by rw [← z]; exact ha)⟩
    · rcases List.mem_cons.mp ha with rfl | ha
      · exact ⟨.inl (nn _ nd1), fun z => S1.ah _ z nd1, S1.fnone nd1⟩
      · exact fr a (List.mem_cons_of_mem _ (sC a ha))
  | false =>
    rw [Res.ff] at re
    obtain ⟨rfl, re⟩ := re
    simp only [Rep] at re
    obtain ⟨l, vs, rfl, hl, rl⟩ := re
    obtain ⟨ps, ws, rfl, hkw, rw', pr⟩ := pairs_rep rl ep
    refine ⟨l, ps, _, rfl, .of (S1.fh _ _ hl), pr2 S1.fh pr, fun d nd1 => ?_⟩
    rw [mergeK_new hkw nd (fun _ _ => rfl), List.nil_append]
    refine k _ _ _ _ q ((Out.new S1 (New.laid S1.fh nd1 ?_)).after st1)
    simp only [Rep]
    exact ⟨d, ws, rfl, .inl upd_same, hkw, rw'.mono (same_new (S1.fnone nd1))⟩

/-! ### d.values() as a value: summed, listed -/
def tVals (td : TE) : TE := fun σ H Q => td σ H fun x H1 => ∃ d kvs, x = .ref d ∧ Rd H1 d (.dK kvs) ∧ ∀ p, H1 p = none → Q (.ref p) (upd H1 p (.ext fun h => h.IsValuesView p d))
theorem pe_vals {td : TE} (he : PE X e td) (hbase : attributeBase e "values" X.env (eval e X.env) = eval e X.env := by rfl) (hline : (apos.endLine == cpos.line) = true := by rfl) : PE X (.Call (.Attribute e "values" apos) [] [] cpos) (tVals td) := by
  refine ⟨fun pins s σ H Rk I h => ?_⟩
  refine wpAny_Call_method (T := "dict") (id := "dict.values") hbase rfl hline F.plainAttrs_dict F.slot_dict_values F.type_dict_values (thn (he.run pins s σ H _ I h) fun u s1 ⟨x, H1, I1, rx, d, kvs, ex, hd, q⟩ => ?_)
  subst ex
  obtain rfl : u = Value.ref d := rx
  obtain ⟨hz, hs, vs, rel, dd⟩ := dk_rd I1.hok hd
  refine ⟨dd.typeIs, dd.mapOf.noDict, ?_⟩
  have I2 : Inv X pins σ (upd H1 s1.heap.objs.size (.ext fun h => h.IsValuesView s1.heap.objs.size d)) { s1 with heap := s1.heap.push { cls := .type "dict_values", data := .fields #[.ref d] } } :=
    I1.laid (t' := s1.toks) (fun b ob q => Heap.get?_push_of_some _ q) (Nat.le_refl _) ⟨⟨_, Heap.get?_push_size _ rfl, rfl, rfl⟩, ⟨_, Heap.get?_push_size _ rfl⟩, fun h1 h2 ⟨o, e1, e2, e3⟩ k => ⟨o, k o e1, e2, e3⟩⟩
  exact method_meetsIn F.slot_dict_values F.entry_dict_values rfl (PySem.evalArgs_none ⟨rfl, dd.typeIs, F.args_dict_values_1 _, _, meets_dict_values (mixKind X.prog X.w) d hs, ⟨vs, dd⟩, ⟨.ref s1.heap.objs.size, _, I2, rfl, q _ (I1.hok.fresh (Nat.le_refl _))⟩⟩)
theorem preSum_list (f : Nat → Int) (ns : List Int) (h : ∀ i (hi : i < ns.length), f i = ns[i]) : preSum f ns.length = ns.sum := by
  induction ns generalizing f with
  | nil => rfl
  | cons n r ih =>
    rw [List.length_cons, PySem.W.kdu_shift, List.sum_cons, h 0 (by simp), ih (fun i => f (i + 1)) fun i hi => by rw [h (i + 1) (by simpa using hi)]; rfl]
    rfl
theorem kdAt_of {P : Program} {w : World} {h : Heap} {d : Addr} {vs : List (Key × Value)} (m : h.DictOf (mixKind P w) d vs) : ∃ ep, h.DictAt (mixKind P w) d vs ep := m.dictAt
def rSumV : List V → Hp → VK → Prop := fun xs H Q => ∃ (p d : Addr) (kvs : List (Key × V)) (ns : List Int), xs = [V.ref p] ∧ H p = some (.ext fun h => h.IsValuesView p d) ∧ Rd H d (.dK kvs) ∧ kvs.map (·.2) = ns.map V.int ∧ Q (.int ns.sum) H
theorem cr_sumV (hc : X.calm = true) : CallR X (.builtin "sum") rSumV := by
  intro pins s σ H xs us Q I r h
  obtain ⟨p, d, kvs, ns, rfl, hp, hd, hn, q⟩ := h
  obtain ⟨u, rfl, ru⟩ := vals1 r
  cases (show u = Value.ref p from ru)
  obtain ⟨hz, hs, vs, rel, dd⟩ := dk_rd I.hok hd
  obtain ⟨ep, da⟩ := kdAt_of dd
  obtain ⟨vw, _, _⟩ := I.hok p _ hp
  have hl : vs.length = ns.length := by
    have e1 := rel.length
    have e2 := congrArg List.length hn
    simp only [List.length_map] at e2
    omega
  have KS := PySem.W.kdl_values (r := p) (d := d) (knd := mixKind X.prog X.w) (kvs := vs) (ep := ep)
  have ok : s.heap.IsValuesView p d ∧ s.heap.DictAt (mixKind X.prog X.w) d vs ep := ⟨vw, da⟩
  obtain ⟨oI, Stt, hit, Wk, st0⟩ := KS.iter X.A.in1 s (I.ok.hd hc) ok
  have hth := KS.there _ ok
  refine call_sum_walkAnyS (hit _ _ ⟨s.heap.objs.size, _, _, _, vs.length, _, _, fun i => ns.getD i 0, rfl, Wk.toS, st0, fun b hb => ?_, fun i v hv => ?_, fun s' t' hm => ?_⟩)
  · have e1 : (s.heap.push oI).objs.size = s.heap.objs.size + 1 := by rw [Heap.size_push]
    show b < (s.heap.push oI).objs.size
    rw [e1]
    simp only [List.mem_cons, List.not_mem_nil, or_false] at hb
    rcases hb with rfl | rfl
    · exact Nat.lt_succ_self _
    · exact Nat.lt_succ_of_lt hth.2
  · obtain ⟨k, hv⟩ := hv
    have hi : i < ns.length := by rw [← hl]; exact (List.getElem?_eq_some_iff.mp hv).1
    have e2 : (kvs.map (·.2))[i]? = some (V.int ns[i]) := by rw [hn, List.getElem?_map, List.getElem?_eq_getElem hi]; rfl
    rw [List.getElem?_map] at e2
    cases e3 : kvs[i]? with
    | none => rw [e3] at e2; cases e2
    | some kv =>
      rw [e3] at e2
      obtain ⟨k', x⟩ := kv
      simp only [Option.map_some, Option.some.injEq] at e2
      subst e2
      obtain ⟨u, eu, ru⟩ := kv_get rel e3
      rw [hv] at eu
      cases eu
      obtain ⟨t, rfl⟩ := ru
      exact ⟨t, by simp [List.getD, List.getElem?_eq_getElem hi]⟩
  · have kp : ∀ b ob, s.heap.get? b = some ob → s'.heap.get? b = some ob := fun b ob eb =>
      hm.heap b ob (fun z => absurd (Heap.lt_size eb) (by rw [List.mem_singleton.mp z]; exact Nat.lt_irrefl _)) (Heap.get?_push_of_some _ eb)
    have ev : preSum (fun i => ns.getD i 0) vs.length = ns.sum := by
      rw [hl]
      exact preSum_list _ ns fun i hi => by simp [List.getD, List.getElem?_eq_getElem hi]
    rw [ev, Moved.eq_with hm]
    exact ⟨.int ns.sum, H, I.kept (h' := s'.heap) (t' := s'.toks) kp, ⟨_, rfl⟩, q⟩
/-- sum(d.values()) -/
def tqSumV (τ : TQ) : TQ := fun env Q => τ env fun r e1 => ∃ ks, ∃ ns : List Int, r.2 = .dct ks (ns.map T.int) ∧ Q (false, .int ns.sum) e1
theorem q_sumV {p2 : Pos} (hc : X.calm = true) (hg : Gl X "sum") (hm : X.mg "sum" = none) (hx : QE X e τ) (hbase : attributeBase e "values" X.env (eval e X.env) = eval e X.env := by rfl) (hline : (apos.endLine == cpos.line) = true := by rfl)
    (he : starEach [.Call (.Attribute e "values" apos) [] [] cpos] X.env = (false, eval (.Call (.Attribute e "values" apos) [] [] cpos) X.env) :: starEach [] X.env := by rfl) (hpl : (backTo pos (starEach [] X.env)).any (·.1) = false := by rfl) :
    QE X (.Call (.Name "sum" p2) [.Call (.Attribute e "values" apos) [] [] cpos] [] pos) (tqSumV τ) := by
  refine weakE (pe_callB (cr_sumV hc) hg hm (by decide +kernel) (pa_cons (pe_vals hx hbase hline) pa_nil he) (by decide) (by decide) he hpl) fun σ H Rk ⟨F, A, env, Q, S, h, k⟩ => ?_
  refine lift_sh S h fun r e1 v H1 F1 A1 q S1 st1 re => ?_
  obtain ⟨ks, ns, er, q⟩ := q
  rw [er] at re
  simp only [Rep] at re
  obtain ⟨d, vs, rfl, hd, hl, rl⟩ := re
  cases repL_ints rl
  refine ⟨d, _, rfl, Rd.mono S1.fh hd, fun p n => ⟨p, d, _, ns, rfl, upd_same, Rd.mono (same_new n) (Rd.mono S1.fh hd), List.map_snd_zip (by omega), k _ _ _ _ q ?_⟩⟩
  exact (Out.av (S1.new n) (Step.new n)).after st1
end
end Q
end

section
set_option maxRecDepth 100000
/-! Q13: bundles for the texts that follow: built-in names, callees, classes. -/
namespace Q
open PySem L2

/-- the built-in names that a text leaves alone -/
structure Blt (mg : Str → Option Value) : Prop where
  len : mg "len" = none
  range : mg "range" = none
  isinstance : mg "isinstance" = none
  str : mg "str" = none
  int : mg "int" = none
  bool : mg "bool" = none
  list : mg "list" = none
  dict : mg "dict" = none
  tuple : mg "tuple" = none
  all : mg "all" = none
  any : mg "any" = none
  sum : mg "sum" = none
  zip : mg "zip" = none
  sorted : mg "sorted" = none
  max : mg "max" = none
  min : mg "min" = none
  abs : mg "abs" = none
  repr : mg "repr" = none
  set : mg "set" = none
  enumerate : mg "enumerate" = none
/-- a def that stands at its name and keeps a promise -/
structure Callee (P : Program) (w : World) (K : PySem.W.Frag) (mg : Str → Option Value) (base : Heap) (x : Str) (k n : Nat) (κ : Con) : Prop where
  ex : ∃ (f : Addr) (fd : FuncData) (ps : List Str), FnOk P w K mg base CX0 k f fd ps (spOf K n κ) ∧ mg x = some (.ref f) ∧ PySem.W.keepIn K (.ref f) = true ∧ Binds K fd ps []
/-- a method -/
structure CalleeM (P : Program) (w : World) (K : PySem.W.Frag) (mg : Str → Option Value) (base : Heap) (C : Addr) (m : Str) (k n : Nat) (κ : Con) : Prop where
  ex : ∃ (f : Addr) (fd : FuncData) (ps : List Str), FnOk P w K mg base CX0 k f fd ps (spOf K n κ) ∧ Meth K C m f ∧ Binds K fd ps []
/-- a class that is made -/
structure CalleeC (P : Program) (w : World) (K : PySem.W.Frag) (mg : Str → Option Value) (base : Heap) (x : Str) (C : Addr) (k n : Nat) (κ : Con) : Prop where
  ex : ∃ (f : Addr) (fd : FuncData) (ps : List Str), FnOk P w K mg base CX0 k f fd ps (spOf K n κ) ∧ Mk K C f ∧ mg x = some (.ref C) ∧ Binds K fd ps []
theorem Room.hu {k : Nat} {A : Around} (r : Room k A) : A.units + 64 < cLine := by have := r.un; omega
theorem Room.hu1 {k : Nat} {A : Around} (r : Room k A) : A.units + 1 < cLine := by have := r.un; omega
section
variable {X : Cx} {k k' n : Nat} {C : Addr} {κ : Con} {x m : Str} {p pos apos : Pos} {e o : Expr} {es : List Expr} {τo : TQ} {τs : TQL}
theorem q_callC (G : Callee X.prog X.w X.K X.mg X.base x k n κ) (hr : Room k' X.A) (hk : k ≤ k' := by decide) (hg : Gl X x := by rfl) (ha : QA X (e :: es) τs) (hdb : (x == ("__debug__" : Str)) = false := by decide)
    (he : starEach (e :: es) X.env = (false, eval e X.env) :: starEach es X.env := by rfl) (hpl : (backTo pos (starEach es X.env)).any (·.1) = false := by rfl) : QE X (.Call (.Name x p) (e :: es) [] pos) (tqCall κ n τs) := by
  obtain ⟨f, fd, ps, F, hm, kp, hb⟩ := G.ex
  exact q_call F (hr.mono hk) hg hm kp hb pass0 ha hdb he hpl
theorem q_methC {pl : Sem Bool} (G : CalleeM X.prog X.w X.K X.mg X.base C m k n κ) (c : Cls X.K C) (hr : Room k' X.A) (ho : QE X o τo) (ha : QA X (e :: es) τs) (hk : k ≤ k' := by decide)
    (hst : starEach (e :: es) X.env = (false, eval e X.env) :: starEach es X.env := by rfl) (hpl : (backTo pos (starEach es X.env)).any (·.1) = false := by rfl)
    (ht : eval (.Call (.Attribute o m apos) (e :: es) [] pos) X.env = (do
      let ov ← eval o X.env
      standAt apos.atName
      let (f, first) ← holding [ov] (getMethod ov m pl)
      callWith pos f first (backTo pos (starEach (e :: es) X.env)) (backToKw pos (keywordEach [] X.env))) := by rfl) : QE X (.Call (.Attribute o m apos) (e :: es) [] pos) (tqMeth C m κ n τo τs) := by
  obtain ⟨f, fd, ps, F, hm, hb⟩ := G.ex
  exact q_meth ho c hm F (hr.mono hk) hb pass0 ha hst hpl ht
theorem q_methC0 {pl : Sem Bool} (G : CalleeM X.prog X.w X.K X.mg X.base C m k n κ) (c : Cls X.K C) (hr : Room k' X.A) (ho : QE X o τo) (hk : k ≤ k' := by decide)
    (ht : eval (.Call (.Attribute o m apos) [] [] pos) X.env = (do
      let ov ← eval o X.env
      standAt apos.atName
      let (f, first) ← holding [ov] (getMethod ov m pl)
      callWith pos f first (backTo pos (starEach [] X.env)) (backToKw pos (keywordEach [] X.env))) := by rfl) : QE X (.Call (.Attribute o m apos) [] [] pos) (tqMeth C m κ n τo tqNil) := by
  obtain ⟨f, fd, ps, F, hm, hb⟩ := G.ex
  exact q_meth0 ho c hm F (hr.mono hk) hb pass0 ht
theorem q_makeC (G : CalleeC X.prog X.w X.K X.mg X.base x C k n κ) (hr : Room k' X.A) (hk : k + 1 ≤ k' := by decide) (hg : Gl X x := by rfl) (ha : QA X (e :: es) τs) (hdb : (x == ("__debug__" : Str)) = false := by decide)
    (he : starEach (e :: es) X.env = (false, eval e X.env) :: starEach es X.env := by rfl) (hpl : (backTo pos (starEach es X.env)).any (·.1) = false := by rfl) : QE X (.Call (.Name x p) (e :: es) [] pos) (tqMake C κ n τs) := by
  obtain ⟨f, fd, ps, F, M, hm, hb⟩ := G.ex
  exact q_make M F (hr.mono hk) hg hm hb pass0 ha hdb he hpl
end
/-- a slot handed on: it is empty behind -/
def tqMove (i : Nat) : TQ := fun env Q => ∃ r, env[i]? = some (some r) ∧ Q r (env.set i none)
theorem qe_move {X : Cx} {i : Nat} {e : Expr} (h : PE X e (tVar i)) : QE X e (tqMove i) := by
  refine weakE h fun σ H Rk ⟨F, A, env, Q, S, h, k⟩ => ?_
  obtain ⟨r, er, q⟩ := h
  obtain ⟨fh, ah, le, As, h1, h2, h3, h4⟩ := id S
  obtain ⟨v, e1, re⟩ := h1 i r er
  refine ⟨v, e1, k _ _ _ _ q ⟨F, fun a => A a ∧ a ∉ As i, As i, ⟨fh, fun a ha => ah a ha.1, by simpa using le, fun j => if j = i then [] else As j, fun j r' e' => ?_, fun j => ?_, fun j l hjl a ha hb => ?_, fun j a ha => ?_⟩, ⟨.refl _, fun _ _ h _ => h, fun _ h => h, fun _ h => .inl h.1, fun _ _ h => .inl h⟩, re, h2 i, fun a ha => ⟨.inr (h4 i a ha).1, fun z => z.2 ha, (h4 i a ha).2⟩⟩⟩
  · by_cases hj : j = i
    · subst hj
      have hl : j < env.length := (List.getElem?_eq_some_iff.mp er).1
      rw [List.getElem?_set_self hl] at e'
      cases e'
    · rw [List.getElem?_set_ne (Ne.symm hj)] at e'
      obtain ⟨w, ew, q⟩ := h1 j r' e'
      exact ⟨w, ew, by simpa [hj] using q⟩
  · dsimp only
    split
    · exact List.nodup_nil
    · exact h2 j
  · dsimp only at ha hb
    split at ha
    · simp at ha
    · split at hb
      · simp at hb
      · exact h3 j l hjl a ha hb
  · dsimp only at ha
    split at ha
    · simp at ha
    · rename_i hj
      exact ⟨⟨(h4 j a ha).1, fun z => h3 j i hj a ha z⟩, (h4 j a ha).2⟩
/-- y = [..] on one line, y a local: as a plain store -/
theorem ps_setLcQ {X : Cx} {tg iter elt : Expr} {ifs : List Expr} {scope : Scope} {own : List (Str × Nat)} {pos : Pos} {ws : List Nat} {τi : TQI} {γ : TGQ} {tt : TQB} {τ : TQ} {i : Nat} {y : Str} {py spos : Pos} (hc : X.calm = true) (hN : X.N.Nodup) (hy : X.N[i]? = some y) (hyl : X.env.scope.names.lookup y = some .local)
    (hsw : swapsWith (.ListComp elt [⟨tg, iter, ifs, 0⟩] scope pos) (some (.Name y py)) spos.line X.env = pure true) (hi : QI X tg iter τi) (ok : BlkOk X.N X.env.scope scope own)
    (hg : ∀ (s : Shared) (H : Hp) (C : Addr) (cl : List (Str × Addr)) (fp : List Addr), QG (X.blk s H scope (compEnvC scope cl C X.env) fp) tg ws γ) (ht : ∀ (s : Shared) (H : Hp) (C : Addr) (cl : List (Str × Addr)) (fp : List Addr), QTs (X.blk s H scope (compEnvC scope cl C X.env) fp) ifs tt)
    (he : ∀ (s : Shared) (H : Hp) (C : Addr) (cl : List (Str × Addr)) (fp : List Addr), QE (X.blk s H scope (compEnvC scope cl C X.env) fp) elt τ) (hws : ∀ i ∈ ws, i ∈ own.map (·.2) := by decide) (hs : ∀ x, foldedSetIterable iter X.env x = pure x := by intro _; rfl) :
    PS X (.Assign [.Name y py] (.ListComp elt [⟨tg, iter, ifs, 0⟩] scope pos) spos) (tAsg (lift X.K (tqLc τi γ tt τ (own.map (·.2)))) (gName i)) :=
  weakS (ps_unlk (ps_setLc (i := i) (g := liftG X.K ws γ) (tt := liftT X.K tt) (te := lift X.K τ) hc hN hy hyl hsw hi ok hg ht he hs)) fun D σ H h => by
    show tLc _ _ _ _ _ σ H (fun x H1 => UO X (D.nx (σ.set i (some x))) H1)
    exact lc_read (Rk := fun x H1 => D.nx (σ.set i (some x)) H1) hws h
end Q
end

section
set_option maxRecDepth 100000
/-! Q14: sharing a slot, augmented stores, comprehensions and loops over typed lists. -/
namespace Q
open PySem L2
theorem pe_gcQ {X : Cx} {x : Str} {v : V} {pos : Pos} (hg : Gl X x) (h : ∃ u, X.mg x = some u ∧ RelV v u) (hd : (x == ("__debug__" : Str)) = false := by decide) : PE X (.Name x pos) (tC v) := by
  obtain ⟨u, hm, r⟩ := h
  exact pe_glob hg hm r hd
theorem qe_share {X : Cx} {i : Nat} {e : Expr} (h : PE X e (tVar i)) : QE X e (tqShare i) := by
  refine weakE h fun σ H Rk ⟨F, A, env, Q, S, h, k⟩ => ?_
  obtain ⟨r, er, q⟩ := h
  obtain ⟨F', A', v, S', hA, hF, sm, e1, rp⟩ := S.freeze er
  exact ⟨v, e1, k _ _ _ _ q ⟨F', A', [], S', ⟨sm, fun _ _ h _ => h, fun _ h => h, fun b h => .inl (hA b h), fun b o h => (hF b o h).imp id .inr⟩, by rw [Res.ff]; exact ⟨rfl, rp⟩, List.nodup_nil, by simp⟩⟩
abbrev roAddI := roI0 fun i j => .int (i + j)
theorem br_ip_add {K : PySem.W.Frag} : Br2 K (ipI fun i j => i + j) roAddI := br_I0 (g := fun i j => .int (i + j))
theorem br_ip_sub {K : PySem.W.Frag} : Br2 K (ipI fun i j => i - j) roSub := br_I0 (g := fun i j => .int (i - j))
theorem br_in_add {K : PySem.W.Frag} : Br2 K rAdd roAddI := br_I0 (g := fun i j => .int (i + j))
theorem br_in_sub {K : PySem.W.Frag} : Br2 K rSub roSub := br_I0 (g := fun i j => .int (i - j))
/-- a comprehension, turn by turn -/
theorem lc_go {α : Type} {γ : TGQ} {tt : TQB} {τ : TQ} {vs : List Nat} {env : Env} {Q : List R → Env → Prop} (emb : α → T) (f : α → Option R) : ∀ (xs : List α) (acc : List R),
    (∀ x ∈ xs, ∀ Kb : Option R → Env → Prop, Kb (f x) env → γ (emb x) env fun e1 => tt e1 fun b e2 => if b = true then τ e2 fun r e3 => Kb (some r) (wipeE e3 vs) else Kb none (wipeE e2 vs)) →
    Q (acc ++ xs.filterMap f) env → lcT γ tt τ vs (xs.map emb) acc env Q
  | [], acc, _, q => by simpa [lcT] using q
  | x :: xs, acc, h, q => by
    have := h x (List.mem_cons_self) (fun o e => lcT γ tt τ vs (xs.map emb) (match o with | some r => acc ++ [r] | none => acc) e Q) (by
      refine lc_go emb f xs _ (fun y hy => h y (List.mem_cons_of_mem _ hy)) ?_
      cases e : f x with
      | none => rw [List.filterMap_cons_none e] at q; exact q
      | some r => rw [List.filterMap_cons_some e] at q; simpa using q)
    exact this
/-- .. without a test -/
theorem lc_map {α : Type} {γ : TGQ} {τ : TQ} {vs : List Nat} {env : Env} {Q : List R → Env → Prop} (emb : α → T) (f : α → R) (xs : List α)
    (h : ∀ x ∈ xs, ∀ Kb : R → Env → Prop, Kb (f x) env → γ (emb x) env fun e1 => τ e1 fun r e3 => Kb r (wipeE e3 vs))
    (q : Q (xs.map f) env) : lcT γ tqYes τ vs (xs.map emb) [] env Q := by
  refine lc_go emb (fun x => some (f x)) xs [] (fun x hx Kb hk => ?_) (by simpa [List.filterMap_eq_map] using q)
  exact h x hx (fun r e => Kb (some r) e) hk
theorem kidx_new {k : Key} : ∀ {ks : List Key}, k ∉ ks → kidx k ks = none
  | [], _ => rfl
  | k' :: ks, h => by
    simp only [List.mem_cons, not_or] at h
    unfold kidx
    rw [if_neg (Ne.symm h.1), kidx_new h.2]
    rfl
/-- a dict comprehension, each key new -/
theorem dc_go {α : Type} {γ : TGQ} {tt : TQB} {τk τ : TQ} {vs : List Nat} {env : Env} {Q : List Key → List R → Env → Prop} (emb : α → T) (f : α → Option (Key × R)) : ∀ (xs : List α) (ks : List Key) (acc : List R),
    (∀ x ∈ xs, ∀ Kb : Option (Key × R) → Env → Prop, Kb (f x) env → γ (emb x) env fun e1 => tt e1 fun b e2 => if b = true then τk e2 fun rk e3 => τ e3 fun r e4 => ∃ k, rk.2.key? = some k ∧ Kb (some (k, r)) (wipeE e4 vs) else Kb none (wipeE e2 vs)) →
    (ks ++ (xs.filterMap f).map (·.1)).Nodup →
    Q (ks ++ (xs.filterMap f).map (·.1)) (acc ++ (xs.filterMap f).map (·.2)) env → lcD γ tt τk τ vs (xs.map emb) ks acc env Q
  | [], ks, acc, _, _, q => by simpa [lcD] using q
  | x :: xs, ks, acc, h, nd, q => by
    have := h x (List.mem_cons_self) (fun o e => match o with | some (k, r) => kidx k ks = none ∧ lcD γ tt τk τ vs (xs.map emb) (ks ++ [k]) (acc ++ [r]) e Q | none => lcD γ tt τk τ vs (xs.map emb) ks acc e Q) (by
      cases e : f x with
      | none =>
        rw [List.filterMap_cons_none e] at q nd
        exact dc_go emb f xs _ _ (fun y hy => h y (List.mem_cons_of_mem _ hy)) nd q
      | some kr =>
        rw [List.filterMap_cons_some e] at q nd
        refine ⟨kidx_new fun z => ?_, dc_go emb f xs _ _ (fun y hy => h y (List.mem_cons_of_mem _ hy)) (by simpa using nd) (by simpa using q)⟩
        exact (List.nodup_append.mp nd).2.2 _ z _ (by simp) rfl)
    exact this
/-- .. without a test -/
theorem dc_map {α : Type} {γ : TGQ} {τk τ : TQ} {vs : List Nat} {env : Env} {Q : List Key → List R → Env → Prop} (emb : α → T) (fk : α → Key) (f : α → R) (xs : List α)
    (h : ∀ x ∈ xs, ∀ Kb : Key → R → Env → Prop, Kb (fk x) (f x) env → γ (emb x) env fun e1 => τk e1 fun rk e3 => τ e3 fun r e4 => ∃ k, rk.2.key? = some k ∧ Kb k r (wipeE e4 vs))
    (nd : (xs.map fk).Nodup) (q : Q (xs.map fk) (xs.map f) env) : lcD γ tqYes τk τ vs (xs.map emb) [] [] env Q := by
  have e1 : (xs.filterMap fun x => some (fk x, f x)) = xs.map fun x => (fk x, f x) := by simp [List.filterMap_eq_map]
  refine dc_go emb (fun x => some (fk x, f x)) xs [] [] (fun x hx Kb hk => h x hx (fun k r e => Kb (some (k, r)) e) hk) (by rw [e1, List.map_map]; exact nd) (by rw [e1, List.map_map, List.map_map]; exact q)
theorem filterMap_flt {α β : Type} (p : α → Bool) (f : α → β) : ∀ xs : List α, (xs.filterMap fun x => if p x = true then some (f x) else none) = (xs.filter p).map f
  | [] => rfl
  | x :: xs => by
    have ih := filterMap_flt p f xs
    cases h : p x with
    | true => rw [List.filterMap_cons_some (by rw [if_pos h]), ih, List.filter_cons_of_pos h, List.map_cons]
    | false => rw [List.filterMap_cons_none (by rw [h]; rfl), ih, List.filter_cons_of_neg (by rw [h]; decide)]
/-- a comprehension with a test -/
theorem lc_flt {α : Type} {γ : TGQ} {tt : TQB} {τ : TQ} {vs : List Nat} {env : Env} {Q : List R → Env → Prop} (emb : α → T) (p : α → Bool) (f : α → R) (xs : List α)
    (h : ∀ x ∈ xs, ∀ Kb : Option R → Env → Prop, (p x = true → Kb (some (f x)) env) → (p x = false → Kb none env) → γ (emb x) env fun e1 => tt e1 fun b e2 => if b = true then τ e2 fun r e3 => Kb (some r) (wipeE e3 vs) else Kb none (wipeE e2 vs))
    (q : Q ((xs.filter p).map f) env) : lcT γ tt τ vs (xs.map emb) [] env Q := by
  refine lc_go emb (fun x => if p x = true then some (f x) else none) xs [] (fun x hx Kb hk => h x hx Kb (fun e => ?_) (fun e => ?_)) (by rw [filterMap_flt]; exact q)
  · rw [if_pos e] at hk; exact hk
  · rw [e] at hk; exact hk
/-- a dict comprehension with a test -/
theorem dc_flt {α : Type} {γ : TGQ} {tt : TQB} {τk τ : TQ} {vs : List Nat} {env : Env} {Q : List Key → List R → Env → Prop} (emb : α → T) (p : α → Bool) (fk : α → Key) (f : α → R) (xs : List α)
    (h : ∀ x ∈ xs, ∀ Kb : Option (Key × R) → Env → Prop, (p x = true → Kb (some (fk x, f x)) env) → (p x = false → Kb none env) → γ (emb x) env fun e1 => tt e1 fun b e2 => if b = true then τk e2 fun rk e3 => τ e3 fun r e4 => ∃ k, rk.2.key? = some k ∧ Kb (some (k, r)) (wipeE e4 vs) else Kb none (wipeE e2 vs))
    (nd : ((xs.filter p).map fk).Nodup) (q : Q ((xs.filter p).map fk) ((xs.filter p).map f) env) : lcD γ tt τk τ vs (xs.map emb) [] [] env Q := by
  have e1 := filterMap_flt p (fun x => (fk x, f x)) xs
  refine dc_go emb (fun x => if p x = true then some (fk x, f x) else none) xs [] [] (fun x hx Kb hk => h x hx Kb (fun e => ?_) (fun e => ?_)) (by rw [e1, List.map_map]; exact nd) (by rw [e1, List.map_map, List.map_map]; exact q)
  · rw [if_pos e] at hk; exact hk
  · rw [e] at hk; exact hk
/-- a for, turn by turn: I of what is still ahead -/
theorem for_rec {α : Type} {γ : TGQ} {tb : TSQ} {D : DQ} (emb : α → T) (I : List α → Env → Prop) (done : ∀ e, I [] e → D.nx e)
    (turn : ∀ x xs e (N : Env → Prop), I (x :: xs) e → (∀ e', I xs e' → N e') → γ (emb x) e fun e1 => tb ⟨N, D.rt, D.nx, N⟩ e1) : ∀ (xs : List α) (e : Env), I xs e → forT γ tb (xs.map emb) e D
  | [], e, h => done e h
  | x :: xs, e, h => turn x xs e (fun e2 => forT γ tb (xs.map emb) e2 D) h fun e' h' => for_rec emb I done turn xs e' h'
/-- .. one state behind another -/
theorem for_fold {α S : Type} {γ : TGQ} {tb : TSQ} {D : DQ} (emb : α → T) (I : S → Env → Prop) (step : S → α → S) : ∀ (xs : List α) (s : S) (e : Env),
    (∀ x ∈ xs, ∀ s e (N : Env → Prop), I s e → (∀ e', I (step s x) e' → N e') → γ (emb x) e fun e1 => tb ⟨N, D.rt, D.nx, N⟩ e1) → I s e → (∀ e', I (xs.foldl step s) e' → D.nx e') → forT γ tb (xs.map emb) e D
  | [], s, e, _, h, k => k e h
  | x :: xs, s, e, t, h, k => t x List.mem_cons_self s e (fun e2 => forT γ tb (xs.map emb) e2 D) h fun e' h' => for_fold emb I step xs (step s x) e' (fun y hy => t y (List.mem_cons_of_mem _ hy)) h' k
/-! ### defs that only read what they are handed -/
theorem SR.freezeAll {K : PySem.W.Frag} {σ : St} {H F : Hp} {A : Addr → Prop} {env : Env} (S : SR K σ H F A env) : ∃ F', SR K σ H F' (fun _ => False) (frzE env) ∧ Step H F A H F' (fun _ => False) := by
  obtain ⟨fh, ah, le, As, h1, h2, h3, h4⟩ := S
  let L := (List.range env.length).flatMap As
  have mL : ∀ a ∈ L, ∃ i, a ∈ As i := fun a ha => by
    obtain ⟨i, _, z⟩ := List.mem_flatMap.mp ha
    exact ⟨i, z⟩
  have fL : ∀ a ∈ L, F a = none := fun a ha => by
    obtain ⟨i, z⟩ := mL a ha
    exact (h4 i a z).2
  refine ⟨Q.grow F H L, ⟨grow_in fh, fun a ha => ha.elim, by simpa [frzE] using le, fun _ => [], fun i r e => ?_, fun _ => List.nodup_nil, by simp, by simp⟩, ⟨grow_same fL, fun _ _ h _ => h, fun _ h => h, fun _ h => h.elim, fun b o h => ?_⟩⟩
  · unfold frzE at e
    rw [List.getElem?_map] at e
    cases z : env[i]? with
    | none => rw [z] at e; cases e
    | some o =>
      rw [z] at e
      cases o with
      | none => cases e
      | some r0 =>
        cases e
        obtain ⟨v, e1, re⟩ := h1 i r0 z
        refine ⟨v, e1, ?_⟩
        rw [Res.ff]
        refine ⟨rfl, re.rep (grow_same fL) fun a ha o eo => ?_⟩
        rw [grow_mem (List.mem_flatMap.mpr ⟨i, List.mem_range.mpr (List.getElem?_eq_some_iff.mp z).1, ha⟩)]
        exact eo
  · by_cases z : b ∈ L
    · obtain ⟨i, z⟩ := mL b z
      exact .inr (.inr (h4 i b z).1)
    · rw [grow_not z] at h; exact .inl h
abbrev CT := List T → (R → Prop) → Prop
/-- a promise over trees: what is handed in is only read -/
def rc (c : CT) : Con := fun ts Q => c (ts.map Prod.snd) fun r => Q r []
def startR (N : List Str) (us : List T) : Env := startE N (us.map fun t => (false, t))
theorem fn_r {P : Program} {w : World} {K : PySem.W.Frag} {mg : Str → Option Value} {base : Heap} {x qual : Str} {st : Stmt} {f : Addr} {fd : FuncData} {N ps : List Str} {k n : Nat} {c : CT} (F : Fun K x qual st f fd) (S : FnScope N ps (defScope st)) (hn : ps.length = n)
    (hbody : ∀ (cdv : Value) (A : Around) (outer : List PySem.Env) (s : Shared) (H : Hp) (E : XK), Room k (A.deeper (PyProof.Rows.envOfC qual (defScope st) s.heap.objs.size f cdv)) →
      ∃ τ, QSs (cxOf CX0 P w K mg base N qual (defScope st) f cdv A outer s H E).nox [] (defBody st) τ ∧ ∀ us Q, us.length = n → c us Q → τ ⟨fun _ => Q (false, .non), fun r _ => Q r, fun _ => False, fun _ => False⟩ (startR N us)) :
    FnOk P w K mg base CX0 (k + 1) f fd ps (spOf K n (rc c)) := by
  refine F.ok S (fun vs H Rk E h => ?_) (fun cdv A outer s H vs Rk E hr h => ?_)
  · obtain ⟨_, _, _, _, h, _⟩ := h
    rw [h, hn]
  · obtain ⟨F', A', ts, Q, hl, SA, hlt, hκ, kk⟩ := h
    obtain ⟨τ, ht, hτ⟩ := hbody cdv A outer s H E hr
    obtain ⟨F0, S0, st0⟩ := SA.freezeAll
    have e0 : frzE (ts.map some) = ((ts.map Prod.snd).map fun t => ((false, t) : R)).map some := by simp [frzE]
    rw [e0] at S0
    refine ⟨_, ht, F0, fun _ => False, startR N (ts.map Prod.snd), _, ?_, hτ (ts.map Prod.snd) (fun r => Q r []) (by simpa using hlt) hκ, ?_⟩
    · refine S0.imp (by unfold L2.start startR startE; simp [hl, hlt]) fun i r e => .inl ?_
      have e1 := startE_some e
      refine ⟨e1, ?_⟩
      have hi : i < vs.length := by
        have := (List.getElem?_eq_some_iff.mp e1).1
        simp only [List.length_map] at this
        omega
      unfold L2.start
      rw [List.getElem?_append_left (by simpa using hi)]
    · have back : ∀ {σ' : St} {F2 H2 : Hp} {A2 : Addr → Prop} {e' : Env}, SR K σ' H2 F2 A2 e' → SR K (vs.map some) H2 F2 A2 [] := fun S2 => S2.imp (by simp) fun i r e => by simp at e
      refine ⟨fun e' σ' H' q ⟨F2, A2, S2, st2, p2⟩ => kk _ _ _ _ q ⟨F2, A2, [], back S2, st0.trans st2, Res.of_av, List.nodup_nil, by simp⟩,
        fun r e' v H' q ⟨σ', F2, A2, Ar, S2, st2, p2, re, nd, fr⟩ => kk _ _ _ _ q ⟨F2, A2, Ar, back S2, st0.trans st2, re, nd, fun a ha => ⟨st0.src (fr a ha).1, (fr a ha).2⟩⟩, fun _ _ _ q _ => q.elim, fun _ _ _ q _ => q.elim⟩
theorem iteTq {b : Bool} {p q : Prop} (h : b = true) (k : p) : if b = true then p else q := by rw [if_pos h]; exact k
theorem iteFq {b : Bool} {p q : Prop} (h : b = false) (k : q) : if b = true then p else q := by rw [if_neg (by rw [h]; decide)]; exact k
theorem iteBq {b : Bool} {p q : Prop} (h : b = true → p) (k : b = false → q) : if b = true then p else q := by cases b; exact k rfl; exact h rfl
/-! ### dicts of strings -/
def dmap (ms : List Str) (g : Str → T) : T := .dct (ms.map Sum.inr) (ms.map g)
theorem dget_map {g : Str → T} {m : Str} : ∀ {ms : List Str}, dget (ms.map (Sum.inr : Str → Key)) (ms.map g) (Sum.inr m) = if m ∈ ms then some (g m) else none
  | [] => rfl
  | x :: ms => by
    simp only [List.map_cons, dget, dget_map (ms := ms), List.mem_cons]
    by_cases h : x = m
    · subst h; simp
    · have h' : ¬ m = x := fun e => h e.symm
      have h2 : ¬ ((Sum.inr x : Key) = Sum.inr m) := fun e => h (by cases e; rfl)
      simp [h', h2]
theorem kidx_map {m : Str} : ∀ {ms : List Str}, m ∈ ms → ∃ j, kidx (Sum.inr m) (ms.map (Sum.inr : Str → Key)) = some j ∧ ms[j]? = some m
  | x :: ms, h => by
    unfold List.map kidx
    by_cases e : x = m
    · subst e; exact ⟨0, by simp, rfl⟩
    · have h2 : ¬ ((Sum.inr x : Key) = Sum.inr m) := fun z => e (by cases z; rfl)
      rcases List.mem_cons.mp h with z | z
      · exact absurd z.symm e
      · obtain ⟨j, h3, h4⟩ := kidx_map z
        exact ⟨j + 1, by rw [if_neg h2, h3]; rfl, by simpa using h4⟩
theorem nodup_inr {ms : List Str} (h : ms.Nodup) : (ms.map (Sum.inr : Str → Key)).Nodup := List.Pairwise.map _ (fun _ _ n e => n (by cases e; rfl)) h
theorem set_map {g : Str → T} {m : Str} {r : T} {ms : List Str} {j : Nat} (nd : ms.Nodup) (h : ms[j]? = some m) : (ms.map g).set j r = ms.map fun x => if x = m then r else g x := by
  apply List.ext_getElem?
  intro i
  rw [List.getElem?_set, List.getElem?_map, List.getElem?_map]
  by_cases e : j = i
  · subst e
    have hl := (List.getElem?_eq_some_iff.mp h).1
    have hm := (List.getElem?_eq_some_iff.mp h).2
    simp [hl, hm]
  · rw [if_neg e]
    cases z : ms[i]? with
    | none => rfl
    | some x =>
      have : x ≠ m := fun w => by
        subst w
        have hl := (List.getElem?_eq_some_iff.mp h).1
        exact e ((List.getElem?_inj hl nd).mp (h.trans z.symm))
      simp [this]
end Q
end

section
set_option maxRecDepth 100000
/-! Q15: trees of strings, numbers, dicts: what the plain operators give. -/
namespace Q
open PySem L2
def strsT (xs : List Str) : T := .lst (xs.map T.str)
def intsL (xs : List Int) : T := .lst (xs.map T.int)
theorem pds_strs : ∀ xs : List Str, T.pds (xs.map T.str) = some (xs.map PyData.str)
  | [] => by simp [T.pds]
  | x :: xs => by simp [T.pds, T.pd, pds_strs xs]
theorem eqv_strs : ∀ xs ys : List Str, PyData.eqvAll (xs.map PyData.str) (ys.map PyData.str) = decide (xs = ys)
  | [], [] => by simp [PyData.eqvAll]
  | [], y :: ys => by simp [PyData.eqvAll]
  | x :: xs, [] => by simp [PyData.eqvAll]
  | x :: xs, y :: ys => by
    simp only [List.map_cons, PyData.eqvAll, eqv_strs xs ys, PyData.eqv]
    by_cases h : x = y <;> by_cases h2 : xs = ys <;> simp [h, h2]
theorem lay_strs : ∀ xs : List Str, (∀ x ∈ xs, PyData.strOk x = true) → PyData.canLayAll0 (xs.map PyData.str) = true
  | [], _ => by simp [PyData.canLayAll0]
  | x :: xs, h => by
    simp only [List.map_cons, PyData.canLayAll0, PyData.canLay0, h x List.mem_cons_self, lay_strs xs fun y hy => h y (List.mem_cons_of_mem _ hy), Bool.and_true]
theorem depth_strs : ∀ xs : List Str, PyData.depthAll (xs.map PyData.str) = 0
  | [] => by simp [PyData.depthAll]
  | x :: xs => by simp [PyData.depthAll, PyData.depth, depth_strs xs]
theorem shaped_strs {xs : List Str} (h : ∀ x ∈ xs, PyData.strOk x = true) : SeqAt.shaped (.list (xs.map PyData.str)) = true := by
  unfold SeqAt.shaped
  simp [PyData.canLay0, lay_strs xs h, PyData.depth, depth_strs]
theorem teq_strs {xs ys : List Str} (hx : ∀ x ∈ xs, PyData.strOk x = true) (hy : ∀ x ∈ ys, PyData.strOk x = true) : teq (strsT xs) (strsT ys) = some (decide (xs = ys)) := by
  unfold teq strsT
  simp [T.pd, pds_strs, shaped_strs hx, shaped_strs hy, PyData.eqv, eqv_strs]
theorem teq_str {x y : Str} (hx : PyData.strOk x = true) (hy : PyData.strOk y = true) : teq (.str x) (.str y) = some (decide (x = y)) := by
  unfold teq
  by_cases h : x = y <;> simp [T.pd, SeqAt.shaped, PyData.eqv, PyData.canLay0, PyData.depth, hx, hy, h]
theorem teq_int (x y : Int) : teq (.int x) (.int y) = some (decide (x = y)) := by
  unfold teq
  by_cases h : x = y <;> simp [T.pd, SeqAt.shaped, PyData.eqv, PyData.canLay0, PyData.depth, h]
theorem avs_strs : ∀ xs : List Str, T.avs (xs.map T.str) = some (xs.map V.str)
  | [] => rfl
  | x :: xs => by simp [T.avs, avs_strs xs]
theorem inV_strs (x : Str) : ∀ xs : List Str, inV (.str x) (xs.map V.str) = decide (x ∈ xs)
  | [] => rfl
  | y :: xs => by
    have := inV_strs x xs
    unfold inV at this ⊢
    simp only [List.map_cons, List.any_cons, this, eqV, List.mem_cons]
    by_cases h : x = y
    · subst h; simp
    · have h' : ¬ y = x := fun e => h e.symm
      by_cases h2 : x ∈ xs
      · simp [h, h', h2]
      · simp [h, h', h2]
        intro z hz e
        exact h2 (e ▸ hz)
theorem flat_strs (xs : List Str) : (xs.map V.str).all flatV = true := by simp [flatV]
theorem tin_strs (x : Str) (xs : List Str) : tin (.str x) (strsT xs) = some (decide (x ∈ xs)) := by
  unfold tin strsT
  simp only [avs_strs, flat_strs, inV_strs]
  rfl
theorem qv {Kb : R → Env → Prop} {r r' : R} {e : Env} (h : Kb r e) (hr : r' = r) : Kb r' e := hr ▸ h
theorem qo {Kb : Option R → Env → Prop} {r r' : Option R} {e : Env} (h : Kb r e) (hr : r' = r) : Kb r' e := hr ▸ h
theorem qo2 {Q : R → Prop} {r r' : R} (h : Q r) (e : r' = r) : Q r' := e ▸ h
/-- the slots in another form -/
theorem envq {P : Env → Prop} {e : Env} (e' : Env) (k : P e') (h : e = e') : P e := h ▸ k
theorem mkR_map {α : Type} (xs : List α) (f : α → R) : mkR (xs.map f) = (xs.all (fun x => okO (f x)), .lst (xs.map fun x => (f x).2)) := by
  unfold mkR
  rw [List.all_map, List.map_map]
  rfl
theorem mkL_strs (xs : List Str) : mkL (xs.map T.str) = (true, strsT xs) := by
  unfold mkL strsT
  simp [List.all_map, T.isAv, Function.comp_def]
theorem mkL_ints (xs : List Int) : mkL (xs.map T.int) = (true, intsL xs) := by
  unfold mkL intsL
  simp [List.all_map, T.isAv, Function.comp_def]
theorem zipT_map {α β : Type} (f : α → T) (g : β → T) : ∀ (xs : List α) (ys : List β), zipT (xs.map f) (ys.map g) = (xs.zip ys).map fun p => .tup [f p.1, g p.2]
  | [], ys => by cases ys <;> rfl
  | x :: xs, [] => rfl
  | x :: xs, y :: ys => by
    simp only [List.map_cons, zipT, List.zip_cons_cons, zipT_map f g xs ys]
theorem cutT_map {α β : Type} (f : α → β) (xs : List α) (lo hi : Option Int) : cutT (xs.map f) lo hi = (cutT xs lo hi).map f := by
  unfold cutT
  rw [List.length_map, List.map_take, List.map_drop]
theorem cutT_tail {α : Type} (xs : List α) : cutT xs (some 1) none = xs.drop 1 := by
  unfold cutT
  have h : HT.sIx xs.length xs.length none = xs.length := by rfl
  rw [h]
  cases xs with
  | nil => rfl
  | cons x xs =>
    have h2 : HT.sIx (x :: xs).length 0 (some 1) = 1 := by
      rw [show (1 : Int) = ((1 : Nat) : Int) from rfl, HT.sIx_nat, List.length_cons]
      omega
    rw [h2]
    exact List.take_of_length_le (by simp)
/-- for i in range(..), by an invariant of the turn's number -/
theorem for_upto {γ : TGQ} {tb : TSQ} {D : DQ} (lo : Int) (n : Nat) (I : Nat → Env → Prop) {e : Env} (h0 : I 0 e)
    (turn : ∀ i, i < n → ∀ e (N : Env → Prop), I i e → (∀ e', I (i + 1) e' → N e') → γ (T.int (lo + (i : Int))) e fun e1 => tb ⟨N, D.rt, D.nx, N⟩ e1) (done : ∀ e, I n e → D.nx e) : forT γ tb (intsT lo n) e D := by
  unfold intsT
  refine for_rec (fun i : Nat => T.int (lo + (i : Int))) (fun xs e => ∃ i, xs = (List.range n).drop i ∧ i ≤ n ∧ I i e) (fun e ⟨i, h1, h2, h3⟩ => ?_) (fun x xs e N ⟨i, h1, h2, h3⟩ hN => ?_) (List.range n) e ⟨0, rfl, Nat.zero_le _, h0⟩
  · have : i = n := by
      have := congrArg List.length h1
      simp at this
      omega
    subst this
    exact done e h3
  · have hi : i < n := by
      have := congrArg List.length h1
      simp at this
      omega
    rw [List.drop_eq_getElem_cons (by simpa using hi)] at h1
    simp only [List.getElem_range, List.cons.injEq] at h1
    obtain ⟨rfl, h1⟩ := h1
    exact turn x hi e N h3 fun e' h' => hN e' ⟨x + 1, h1, hi, h'⟩
/-- a statement, then the rest: J between them -/
theorem seqJ {t u : TSQ} {D : DQ} {env : Env} (J : Env → Prop) (hu : ∀ e, J e → u D e) (ht : ∀ N : Env → Prop, (∀ e, J e → N e) → t { D with nx := N } env) : sqSeq t u D env := ht (u D) hu
/-- a for that may be left early: J at the end -/
theorem for_recB {α : Type} {γ : TGQ} {tb : TSQ} {D : DQ} (emb : α → T) (I : List α → Env → Prop) (J : Env → Prop) (done : ∀ e, I [] e → J e)
    (turn : ∀ x xs e (N B : Env → Prop), I (x :: xs) e → (∀ e', I xs e' → N e') → (∀ e', J e' → B e') → γ (emb x) e fun e1 => tb ⟨N, D.rt, B, N⟩ e1) (fin : ∀ e, J e → D.nx e) (xs : List α) (e : Env) (h : I xs e) : forT γ tb (xs.map emb) e D :=
  for_rec emb I (fun e h => fin e (done e h)) (fun x xs e N h hN => turn x xs e N D.nx h hN fin) xs e h
/-- .. that may be left early: J at the end -/
theorem for_uptoB {γ : TGQ} {tb : TSQ} {D : DQ} (lo : Int) (n : Nat) (I : Nat → Env → Prop) (J : Env → Prop) {e : Env} (h0 : I 0 e)
    (turn : ∀ i, i < n → ∀ e (N B : Env → Prop), I i e → (∀ e', I (i + 1) e' → N e') → (∀ e', J e' → B e') → γ (T.int (lo + (i : Int))) e fun e1 => tb ⟨N, D.rt, B, N⟩ e1) (last : ∀ e, I n e → J e) (done : ∀ e, J e → D.nx e) : forT γ tb (intsT lo n) e D :=
  for_upto lo n I h0 (fun i hi e N h hN => turn i hi e N D.nx h hN done) fun e h => done e (last e h)
end Q
end

section
set_option maxRecDepth 100000
namespace Q
open PySem L2
def top (i : Nat) : Stmt := PySem.Challenge.pw_gotfrom_k43_whole_great_lost_lists.main.body.getD i (.Pass ⟨0, 0, 0, 0⟩)
abbrev s_is_name : Stmt := top 10
abbrev N_is_name : List Str := ["value", "letter"]
theorem sc_is_name : FnScope N_is_name ["value"] (defScope s_is_name) := ⟨rfl, rfl, rfl, by decide +kernel, rfl, by decide +kernel, by decide +kernel⟩
abbrev s_is_members : Stmt := top 11
abbrev N_is_members : List Str := ["value", "member", "one", "other"]
theorem sc_is_members : FnScope N_is_members ["value"] (defScope s_is_members) := ⟨rfl, rfl, rfl, by decide +kernel, rfl, by decide +kernel, by decide +kernel⟩
abbrev s_need_members : Stmt := top 12
abbrev N_need_members : List Str := ["members"]
theorem sc_need_members : FnScope N_need_members ["members"] (defScope s_need_members) := ⟨rfl, rfl, rfl, by decide +kernel, rfl, by decide +kernel, by decide +kernel⟩
abbrev s_is_member : Stmt := top 13
abbrev N_is_member : List Str := ["members", "value"]
theorem sc_is_member : FnScope N_is_member ["members", "value"] (defScope s_is_member) := ⟨rfl, rfl, rfl, by decide +kernel, rfl, by decide +kernel, by decide +kernel⟩
abbrev s_need_member : Stmt := top 14
abbrev N_need_member : List Str := ["members", "value"]
theorem sc_need_member : FnScope N_need_member ["members", "value"] (defScope s_need_member) := ⟨rfl, rfl, rfl, by decide +kernel, rfl, by decide +kernel, by decide +kernel⟩
abbrev s_are_lists_of : Stmt := top 16
abbrev N_are_lists_of : List Str := ["members", "value", "member", "entries", "giver"]
theorem sc_are_lists_of : FnScope N_are_lists_of ["members", "value"] (defScope s_are_lists_of) := ⟨rfl, rfl, rfl, by decide +kernel, rfl, by decide +kernel, by decide +kernel⟩
abbrev s_need_lists : Stmt := top 17
abbrev N_need_lists : List Str := ["members", "first", "lists"]
theorem sc_need_lists : FnScope N_need_lists ["members", "first", "lists"] (defScope s_need_lists) := ⟨rfl, rfl, rfl, by decide +kernel, rfl, by decide +kernel, by decide +kernel⟩
abbrev s_uses_of : Stmt := top 18
abbrev N_uses_of : List Str := ["members", "first", "lists", "named", "entries", "giver", "member"]
theorem sc_uses_of : FnScope N_uses_of ["members", "first", "lists"] (defScope s_uses_of) := ⟨rfl, rfl, rfl, by decide +kernel, rfl, by decide +kernel, by decide +kernel⟩
abbrev s_surpluses_of : Stmt := top 19
abbrev N_surpluses_of : List Str := ["members", "first", "lists", "member", "had", "named"]
theorem sc_surpluses_of : FnScope N_surpluses_of ["members", "first", "lists"] (defScope s_surpluses_of) := ⟨rfl, rfl, rfl, by decide +kernel, rfl, by decide +kernel, by decide +kernel⟩
abbrev s_starts_of : Stmt := top 20
abbrev N_starts_of : List Str := ["members", "first", "lists", "member"]
theorem sc_starts_of : FnScope N_starts_of ["members", "first", "lists"] (defScope s_starts_of) := ⟨rfl, rfl, rfl, by decide +kernel, rfl, by decide +kernel, by decide +kernel⟩
abbrev s_ring_at : Stmt := top 21
abbrev N_ring_at : List Str := ["starts", "member", "found", "giver"]
theorem sc_ring_at : FnScope N_ring_at ["starts", "member"] (defScope s_ring_at) := ⟨rfl, rfl, rfl, by decide +kernel, rfl, by decide +kernel, by decide +kernel⟩
abbrev s_least_ring : Stmt := top 22
abbrev N_least_ring : List Str := ["starts", "member", "ring"]
theorem sc_least_ring : FnScope N_least_ring ["starts"] (defScope s_least_ring) := ⟨rfl, rfl, rfl, by decide +kernel, rfl, by decide +kernel, by decide +kernel⟩
abbrev s_need_lost : Stmt := top 24
abbrev N_need_lost : List Str := ["members", "first", "lists", "member"]
theorem sc_need_lost : FnScope N_need_lost ["members", "first", "lists", "member"] (defScope s_need_lost) := ⟨rfl, rfl, rfl, by decide +kernel, rfl, by decide +kernel, by decide +kernel⟩
abbrev s_with_list : Stmt := top 25
abbrev N_with_list : List Str := ["members", "lists", "member", "entries", "one"]
theorem sc_with_list : FnScope N_with_list ["members", "lists", "member", "entries"] (defScope s_with_list) := ⟨rfl, rfl, rfl, by decide +kernel, rfl, by decide +kernel, by decide +kernel⟩
abbrev s_arrangements : Stmt := top 26
abbrev N_arrangements : List Str := ["bag", "found", "number", "many", "place"]
theorem sc_arrangements : FnScope N_arrangements ["bag"] (defScope s_arrangements) := ⟨rfl, rfl, rfl, by decide +kernel, rfl, by decide +kernel, by decide +kernel⟩
abbrev s_Lost_leads : Stmt := inClass (top 27) 1
abbrev N_Lost_leads : List Str := ["self", "first", "lists", "member", "one", "turn"]
theorem sc_Lost_leads : FnScope N_Lost_leads ["self", "first", "lists", "member", "one"] (defScope s_Lost_leads) := ⟨rfl, rfl, rfl, by decide +kernel, rfl, by decide +kernel, by decide +kernel⟩
abbrev s_Lostzz_initzz : Stmt := inClass (top 27) 0
abbrev N_Lostzz_initzz : List Str := ["self", "members", "first", "lists", "member", "many", "one", "number"]
theorem sc_Lostzz_initzz : FnScope N_Lostzz_initzz ["self", "members", "first", "lists", "member"] (defScope s_Lostzz_initzz) := ⟨rfl, rfl, rfl, by decide +kernel, rfl, by decide +kernel, by decide +kernel⟩
abbrev s_Lost_next_names : Stmt := inClass (top 27) 3
abbrev N_Lost_next_names : List Str := ["self", "bag", "is_start", "one"]
theorem sc_Lost_next_names : FnScope N_Lost_next_names ["self", "bag", "is_start"] (defScope s_Lost_next_names) := ⟨rfl, rfl, rfl, by decide +kernel, rfl, by decide +kernel, by decide +kernel⟩
abbrev s_Lost_without : Stmt := inClass (top 27) 5
abbrev N_Lost_without : List Str := ["self", "bag", "one", "name", "many"]
theorem sc_Lost_without : FnScope N_Lost_without ["self", "bag", "one"] (defScope s_Lost_without) := ⟨rfl, rfl, rfl, by decide +kernel, rfl, by decide +kernel, by decide +kernel⟩
abbrev s_Lost_lists_from : Stmt := inClass (top 27) 2
abbrev N_Lost_lists_from : List Str := ["self", "bag", "is_start", "one"]
theorem sc_Lost_lists_from : FnScope N_Lost_lists_from ["self", "bag", "is_start"] (defScope s_Lost_lists_from) := ⟨rfl, rfl, rfl, by decide +kernel, rfl, by decide +kernel, by decide +kernel⟩
abbrev s_Lost_after : Stmt := inClass (top 27) 4
abbrev N_Lost_after : List Str := ["self", "bag", "one"]
theorem sc_Lost_after : FnScope N_Lost_after ["self", "bag", "one"] (defScope s_Lost_after) := ⟨rfl, rfl, rfl, by decide +kernel, rfl, by decide +kernel, by decide +kernel⟩
abbrev s_Lost_total : Stmt := inClass (top 27) 6
abbrev N_Lost_total : List Str := ["self"]
theorem sc_Lost_total : FnScope N_Lost_total ["self"] (defScope s_Lost_total) := ⟨rfl, rfl, rfl, by decide +kernel, rfl, by decide +kernel, by decide +kernel⟩
abbrev s_count_recoveries : Stmt := top 28
abbrev N_count_recoveries : List Str := ["members", "first", "lists", "member"]
theorem sc_count_recoveries : FnScope N_count_recoveries ["members", "first", "lists", "member"] (defScope s_count_recoveries) := ⟨rfl, rfl, rfl, by decide +kernel, rfl, by decide +kernel, by decide +kernel⟩
abbrev s_nth_recovery : Stmt := top 29
abbrev N_nth_recovery : List Str := ["members", "first", "lists", "member", "number", "lost", "bag", "found", "one", "many"]
theorem sc_nth_recovery : FnScope N_nth_recovery ["members", "first", "lists", "member", "number"] (defScope s_nth_recovery) := ⟨rfl, rfl, rfl, by decide +kernel, rfl, by decide +kernel, by decide +kernel⟩
abbrev s_possible_last_holders : Stmt := top 30
abbrev N_possible_last_holders : List Str := ["members", "first", "lists", "member", "lost", "found", "last", "bag"]
theorem sc_possible_last_holders : FnScope N_possible_last_holders ["members", "first", "lists", "member"] (defScope s_possible_last_holders) := ⟨rfl, rfl, rfl, by decide +kernel, rfl, by decide +kernel, by decide +kernel⟩
abbrev s__law_tin : Stmt := top 32
abbrev N__law_tin : List Str := ["_law_script", "_law_k", "_law_cell"]
theorem sc__law_tin : FnScope N__law_tin ["_law_script", "_law_k"] (defScope s__law_tin) := ⟨rfl, rfl, rfl, by decide +kernel, rfl, by decide +kernel, by decide +kernel⟩
abbrev s__law_pinch : Stmt := top 33
abbrev N__law_pinch : List Str := ["_law_tin_here", "_law_many", "_law_ground", "_law_found"]
theorem sc__law_pinch : FnScope N__law_pinch ["_law_tin_here", "_law_many"] (defScope s__law_pinch) := ⟨rfl, rfl, rfl, by decide +kernel, rfl, by decide +kernel, by decide +kernel⟩
abbrev s__law_arranged : Stmt := top 34
abbrev N__law_arranged : List Str := ["_law_names", "_law_found", "_law_at"]
theorem sc__law_arranged : FnScope N__law_arranged ["_law_names"] (defScope s__law_arranged) := ⟨rfl, rfl, rfl, by decide +kernel, rfl, by decide +kernel, by decide +kernel⟩
abbrev s_law : Stmt := top 35
abbrev N_law : List Str := ["_law_script", "_law_k", "_law_tin_here", "_law_members", "_law_centre", "_law_laps", "_law_others", "_law_lists", "_law_names", "_law_due", "_law_least", "_law_most", "_law_first", "_law_rest", "_law_rows", "_law_member"]
theorem sc_law : FnScope N_law ["_law_script"] (defScope s_law) := ⟨rfl, rfl, rfl, by decide +kernel, rfl, by decide +kernel, by decide +kernel⟩
structure Txt (K : PySem.W.Frag) (mg : Str → Option Value) (C_Lost : Addr) : Prop where
  c_LETTERS : ∃ u, mg "LETTERS" = some u ∧ RelV (.str "abcdefghijklmnopqrstuvwxyz") u
  c_MAX_LETTERS : ∃ u, mg "MAX_LETTERS" = some u ∧ RelV (.int 8) u
  c_MAX_MEMBERS : ∃ u, mg "MAX_MEMBERS" = some u ∧ RelV (.int 12) u
  cls_Lost : Cls K C_Lost
  na_Lost_bag : NoAttr K C_Lost "bag"
  na_Lost_possible : NoAttr K C_Lost "possible"
  na_Lost_starts : NoAttr K C_Lost "starts"
section
variable {P : Program} {w : World} {K : PySem.W.Frag} {mg : Str → Option Value} {base : Heap}
def letters : List Nat := ("abcdefghijklmnopqrstuvwxyz" : Str).cps.toList
/-- a name as the law makes them -/
def goodN (s : Str) : Prop := 1 ≤ s.length ∧ s.length ≤ 8 ∧ ∀ c ∈ s.cps.toList, c ∈ letters
theorem goodN.ok {s : Str} (h : goodN s) : PyData.strOk s = true := by
  unfold PyData.strOk
  rw [← Array.all_toList, List.all_eq_true]
  intro c hc
  have h2 : ∀ c ∈ letters, decide (c < 0x110000) = true := by decide +kernel
  exact h2 c (h.2.2 c hc)
def k_is_name : CT := fun us Q => ∃ s, us = [.str s] ∧ goodN s ∧ Q (false, .bl true)
theorem ok_is_name {f : Addr} {fd : FuncData} {C_Lost : Addr} (B : Blt mg) (TX : Txt K mg C_Lost)  (F : Fun K "is_name" "is_name" s_is_name f fd) : FnOk P w K mg base CX0 1 f fd ["value"] (spOf K 1 (rc k_is_name)) := by
  refine fn_r (k := 0) F sc_is_name rfl fun cdv A outer s H E hr => ⟨_, (qss_cons (qs_if (QW.qt (qw_or (qt_not (qt_val (q_isi rfl B.isinstance (qa_cons (qe_var (pv 0)) (qa_cons (qe_c (pe_bltn (v := .ty "str") rfl B.str rfl rfl)) qa_nil))))) (qw_or1 (qt_not (qt_chain qc_le qc_le (qe_c pe_int) (q_len rfl B.len (qa_cons (qe_var (pv 0)) qa_nil)) (qe_c (pe_gcQ rfl TX.c_MAX_LETTERS))))))) (qss_one (qs_ret (qe_c pe_bl))) qss_nil)
      (qss_one (qs_ret (q_all rfl rfl B.all (qa_cons (q_lc (own := [("letter", 1)]) rfl sc_is_name.nd (qi_str (qe_var (pv 0))) (blkOk_by (N := N_is_name) (sc := defScope s_is_name) (by decide +kernel)) (fun _ _ _ _ _ => (gq_name (pg_name (i := 1) sc_is_name.nd rfl (by first | exact Or.inl rfl | exact Or.inr rfl)))) (fun _ _ _ _ _ => qts_nil) (fun _ _ _ _ _ => (q_cmp qc_inS (qe_var (pv 1)) (qe_c (pe_gcQ rfl TX.c_LETTERS)) (by rfl)))) qa_nil))))), ?_⟩
  -- names: 0 value, 1 letter
  rintro us Q hl ⟨s, rfl, hg, q⟩
  have hs : s.length ≤ sizeLine := Nat.le_trans hg.2.1 (by decide)
  repeat (first | refine ⟨_, rfl, rfl, List.nodup_nil, ?_⟩ | refine ⟨_, rfl, Nat.le_of_ble_eq_true rfl, ?_⟩ | refine ⟨_, rfl, ?_⟩ | refine ⟨_, _, rfl, rfl, ?_⟩ | refine ⟨_, _, _, rfl, rfl, by decide +kernel, ?_⟩ | refine Or.inl ⟨_, rfl, ?_⟩ | refine Or.inr ⟨_, rfl, ?_⟩ | refine Or.inl ⟨_, _, rfl, rfl, ?_⟩ | refine ⟨_, _, rfl, ?_⟩ | refine ⟨rfl, ?_⟩ | refine ⟨⟨_, rfl⟩, ?_⟩ | refine Or.inl ⟨_, _, _, rfl, rfl, rfl, ?_⟩ | refine ⟨_, _, _, rfl, rfl, ?_⟩)
  refine ⟨_, _, rfl, if_pos hs, ?_⟩
  repeat (first | refine ⟨_, rfl, rfl, List.nodup_nil, ?_⟩ | refine ⟨_, rfl, Nat.le_of_ble_eq_true rfl, ?_⟩ | refine ⟨_, rfl, ?_⟩ | refine ⟨_, _, rfl, rfl, ?_⟩ | refine ⟨_, _, _, rfl, rfl, by decide +kernel, ?_⟩ | refine Or.inl ⟨_, rfl, ?_⟩ | refine Or.inr ⟨_, rfl, ?_⟩ | refine Or.inl ⟨_, _, rfl, rfl, ?_⟩ | refine ⟨_, _, rfl, ?_⟩ | refine ⟨rfl, ?_⟩ | refine ⟨⟨_, rfl⟩, ?_⟩ | refine Or.inl ⟨_, _, _, rfl, rfl, rfl, ?_⟩ | refine ⟨_, _, _, rfl, rfl, ?_⟩)
  refine iteTq (decide_eq_true (by have := hg.1; omega)) ?_
  repeat (first | refine ⟨_, rfl, rfl, List.nodup_nil, ?_⟩ | refine ⟨_, rfl, Nat.le_of_ble_eq_true rfl, ?_⟩ | refine ⟨_, rfl, ?_⟩ | refine ⟨_, _, rfl, rfl, ?_⟩ | refine ⟨_, _, _, rfl, rfl, by decide +kernel, ?_⟩ | refine Or.inl ⟨_, rfl, ?_⟩ | refine Or.inr ⟨_, rfl, ?_⟩ | refine Or.inl ⟨_, _, rfl, rfl, ?_⟩ | refine ⟨_, _, rfl, ?_⟩ | refine ⟨rfl, ?_⟩ | refine ⟨⟨_, rfl⟩, ?_⟩ | refine Or.inl ⟨_, _, _, rfl, rfl, rfl, ?_⟩ | refine ⟨_, _, _, rfl, rfl, ?_⟩)
  refine iteFq (by have := hg.2.1; simp; omega) ?_
  repeat (first | refine ⟨_, rfl, rfl, List.nodup_nil, ?_⟩ | refine ⟨_, rfl, Nat.le_of_ble_eq_true rfl, ?_⟩ | refine ⟨_, rfl, ?_⟩ | refine ⟨_, _, rfl, rfl, ?_⟩ | refine ⟨_, _, _, rfl, rfl, by decide +kernel, ?_⟩ | refine Or.inl ⟨_, rfl, ?_⟩ | refine Or.inr ⟨_, rfl, ?_⟩ | refine Or.inl ⟨_, _, rfl, rfl, ?_⟩ | refine ⟨_, _, rfl, ?_⟩ | refine ⟨rfl, ?_⟩ | refine ⟨⟨_, rfl⟩, ?_⟩ | refine Or.inl ⟨_, _, _, rfl, rfl, rfl, ?_⟩ | refine ⟨_, _, _, rfl, rfl, ?_⟩)
  refine ⟨by have := hg.2.1; simp [signsT, PySem.Str.length] at *; omega, lc_map (fun c => T.str ⟨#[c]⟩) (fun c => (false, .bl true)) s.cps.toList (fun c hc Kb hk => ?_) ?_⟩
  · repeat (first | refine ⟨_, rfl, rfl, List.nodup_nil, ?_⟩ | refine ⟨_, rfl, Nat.le_of_ble_eq_true rfl, ?_⟩ | refine ⟨_, rfl, ?_⟩ | refine ⟨_, _, rfl, rfl, ?_⟩ | refine ⟨_, _, _, rfl, rfl, by decide +kernel, ?_⟩ | refine Or.inl ⟨_, rfl, ?_⟩ | refine Or.inr ⟨_, rfl, ?_⟩ | refine Or.inl ⟨_, _, rfl, rfl, ?_⟩ | refine ⟨_, _, rfl, ?_⟩ | refine ⟨rfl, ?_⟩ | refine ⟨⟨_, rfl⟩, ?_⟩ | refine Or.inl ⟨_, _, _, rfl, rfl, rfl, ?_⟩ | refine ⟨_, _, _, rfl, rfl, ?_⟩)
    exact qv hk (by have := hg.2.2 c hc; unfold letters at this; simp [this])
  · rw [mkR_map]
    refine ⟨_, rfl, s.cps.toList.map fun _ => true, by simp [List.map_map, Function.comp_def], ?_⟩
    exact qo2 q (by simp)
structure MsOk (ms : List Str) : Prop where
  ge : 1 ≤ ms.length
  le : ms.length ≤ 12
  good : ∀ m ∈ ms, goodN m
  srt : ∀ p ∈ ms.zip (ms.drop 1), ltS p.1 p.2 = true
def k_is_members : CT := fun us Q => ∃ ms, us = [strsT ms] ∧ MsOk ms ∧ Q (false, .bl true)
theorem ok_is_members {f : Addr} {fd : FuncData} {C_Lost : Addr} (B : Blt mg) (TX : Txt K mg C_Lost) (G_is_name : Callee P w K mg base "is_name" 1 1 (rc k_is_name)) (F : Fun K "is_members" "is_members" s_is_members f fd) : FnOk P w K mg base CX0 2 f fd ["value"] (spOf K 1 (rc k_is_members)) := by
  refine fn_r (k := 1) F sc_is_members rfl fun cdv A outer s H E hr => ⟨_, (qss_cons (qs_if (QW.qt (qw_or (qt_not (qt_val (q_isi rfl B.isinstance (qa_cons (qe_var (pv 0)) (qa_cons (qe_c (pe_bltn (v := .ty "list") rfl B.list rfl rfl)) qa_nil))))) (qw_or1 (qt_not (qt_chain qc_le qc_le (qe_c pe_int) (q_len rfl B.len (qa_cons (qe_var (pv 0)) qa_nil)) (qe_c (pe_gcQ rfl TX.c_MAX_MEMBERS))))))) (qss_one (qs_ret (qe_c pe_bl))) qss_nil)
      (qss_cons (qs_if (qt_not (qt_val (q_all rfl rfl B.all (qa_cons (q_lc (own := [("member", 1)]) rfl sc_is_members.nd (qi_list (qe_var (pv 0))) (blkOk_by (N := N_is_members) (sc := defScope s_is_members) (by decide +kernel)) (fun _ _ _ _ _ => (gq_name (pg_name (i := 1) sc_is_members.nd rfl (by first | exact Or.inl rfl | exact Or.inr rfl)))) (fun _ _ _ _ _ => qts_nil) (fun _ _ _ _ _ => (q_callC G_is_name hr (by decide) rfl (qa_cons (qe_var (pv 1)) qa_nil)))) qa_nil)))) (qss_one (qs_ret (qe_c pe_bl))) qss_nil)
      (qss_one (qs_ret (q_all rfl rfl B.all (qa_cons (q_lc (own := [("one", 2), ("other", 3)]) rfl sc_is_members.nd (qi_zip rfl B.zip (qa_cons (qe_var (pv 0)) (qa_cons (q_sl (qe_var (pv 0)) (qo_some (qe_c pe_int)) qo_none) qa_nil))) (blkOk_by (N := N_is_members) (sc := defScope s_is_members) (by decide +kernel)) (fun _ _ _ _ _ => (gq_tup (n := 2) rfl (gqs_cons (gq_name (pg_name (i := 2) sc_is_members.nd rfl (by first | exact Or.inl rfl | exact Or.inr rfl))) (gqs_cons (gq_name (pg_name (i := 3) sc_is_members.nd rfl (by first | exact Or.inl rfl | exact Or.inr rfl))) gqs_nil)))) (fun _ _ _ _ _ => qts_nil) (fun _ _ _ _ _ => (q_cmp qc_lt (qe_var (pv 2)) (qe_var (pv 3)) (by rfl)))) qa_nil)))))), ?_⟩
  -- names: 0 value, 1 member, 2 one, 3 other
  rintro us Q hl ⟨ms, rfl, hg, q⟩
  repeat (first | refine ⟨_, rfl, rfl, List.nodup_nil, ?_⟩ | refine ⟨_, rfl, Nat.le_of_ble_eq_true rfl, ?_⟩ | refine ⟨_, rfl, ?_⟩ | refine ⟨_, _, rfl, rfl, ?_⟩ | refine ⟨_, _, _, rfl, rfl, by decide +kernel, ?_⟩ | refine Or.inl ⟨_, rfl, ?_⟩ | refine Or.inr ⟨_, rfl, ?_⟩ | refine Or.inl ⟨_, _, rfl, rfl, ?_⟩ | refine ⟨_, _, rfl, ?_⟩ | refine ⟨rfl, ?_⟩ | refine ⟨⟨_, rfl⟩, ?_⟩ | refine Or.inl ⟨_, _, _, rfl, rfl, rfl, ?_⟩ | refine ⟨_, _, _, rfl, rfl, ?_⟩)
  refine iteTq (decide_eq_true (by have := hg.ge; simp; omega)) ?_
  repeat (first | refine ⟨_, rfl, rfl, List.nodup_nil, ?_⟩ | refine ⟨_, rfl, Nat.le_of_ble_eq_true rfl, ?_⟩ | refine ⟨_, rfl, ?_⟩ | refine ⟨_, _, rfl, rfl, ?_⟩ | refine ⟨_, _, _, rfl, rfl, by decide +kernel, ?_⟩ | refine Or.inl ⟨_, rfl, ?_⟩ | refine Or.inr ⟨_, rfl, ?_⟩ | refine Or.inl ⟨_, _, rfl, rfl, ?_⟩ | refine ⟨_, _, rfl, ?_⟩ | refine ⟨rfl, ?_⟩ | refine ⟨⟨_, rfl⟩, ?_⟩ | refine Or.inl ⟨_, _, _, rfl, rfl, rfl, ?_⟩ | refine ⟨_, _, _, rfl, rfl, ?_⟩)
  refine iteFq (by have := hg.le; simp; omega) ?_
  repeat (first | refine ⟨_, rfl, rfl, List.nodup_nil, ?_⟩ | refine ⟨_, rfl, Nat.le_of_ble_eq_true rfl, ?_⟩ | refine ⟨_, rfl, ?_⟩ | refine ⟨_, _, rfl, rfl, ?_⟩ | refine ⟨_, _, _, rfl, rfl, by decide +kernel, ?_⟩ | refine Or.inl ⟨_, rfl, ?_⟩ | refine Or.inr ⟨_, rfl, ?_⟩ | refine Or.inl ⟨_, _, rfl, rfl, ?_⟩ | refine ⟨_, _, rfl, ?_⟩ | refine ⟨rfl, ?_⟩ | refine ⟨⟨_, rfl⟩, ?_⟩ | refine Or.inl ⟨_, _, _, rfl, rfl, rfl, ?_⟩ | refine ⟨_, _, _, rfl, rfl, ?_⟩)
  refine ⟨by have := hg.le; simp at *; omega, lc_map T.str (fun c => (false, .bl true)) ms (fun c hc Kb hk => ?_) ?_⟩
  · repeat (first | refine ⟨_, rfl, rfl, List.nodup_nil, ?_⟩ | refine ⟨_, rfl, Nat.le_of_ble_eq_true rfl, ?_⟩ | refine ⟨_, rfl, ?_⟩ | refine ⟨_, _, rfl, rfl, ?_⟩ | refine ⟨_, _, _, rfl, rfl, by decide +kernel, ?_⟩ | refine Or.inl ⟨_, rfl, ?_⟩ | refine Or.inr ⟨_, rfl, ?_⟩ | refine Or.inl ⟨_, _, rfl, rfl, ?_⟩ | refine ⟨_, _, rfl, ?_⟩ | refine ⟨rfl, ?_⟩ | refine ⟨⟨_, rfl⟩, ?_⟩ | refine Or.inl ⟨_, _, _, rfl, rfl, rfl, ?_⟩ | refine ⟨_, _, _, rfl, rfl, ?_⟩)
    exact ⟨hg.good c hc, hk⟩
  · rw [mkR_map]
    refine ⟨_, rfl, ms.map fun _ => true, by simp [List.map_map, Function.comp_def], ?_⟩
    repeat (first | refine ⟨_, rfl, rfl, List.nodup_nil, ?_⟩ | refine ⟨_, rfl, Nat.le_of_ble_eq_true rfl, ?_⟩ | refine ⟨_, rfl, ?_⟩ | refine ⟨_, _, rfl, rfl, ?_⟩ | refine ⟨_, _, _, rfl, rfl, by decide +kernel, ?_⟩ | refine Or.inl ⟨_, rfl, ?_⟩ | refine Or.inr ⟨_, rfl, ?_⟩ | refine Or.inl ⟨_, _, rfl, rfl, ?_⟩ | refine ⟨_, _, rfl, ?_⟩ | refine ⟨rfl, ?_⟩ | refine ⟨⟨_, rfl⟩, ?_⟩ | refine Or.inl ⟨_, _, _, rfl, rfl, rfl, ?_⟩ | refine ⟨_, _, _, rfl, rfl, ?_⟩)
    refine iteFq (by simp) ?_
    repeat (first | refine ⟨_, rfl, rfl, List.nodup_nil, ?_⟩ | refine ⟨_, rfl, Nat.le_of_ble_eq_true rfl, ?_⟩ | refine ⟨_, rfl, ?_⟩ | refine ⟨_, _, rfl, rfl, ?_⟩ | refine ⟨_, _, _, rfl, rfl, by decide +kernel, ?_⟩ | refine Or.inl ⟨_, rfl, ?_⟩ | refine Or.inr ⟨_, rfl, ?_⟩ | refine Or.inl ⟨_, _, rfl, rfl, ?_⟩ | refine ⟨_, _, rfl, ?_⟩ | refine ⟨rfl, ?_⟩ | refine ⟨⟨_, rfl⟩, ?_⟩ | refine Or.inl ⟨_, _, _, rfl, rfl, rfl, ?_⟩ | refine ⟨_, _, _, rfl, rfl, ?_⟩)
    rw [show zipT (ms.map T.str) (cutT (ms.map T.str) (some 1) none) = (ms.zip (ms.drop 1)).map fun p => .tup [T.str p.1, T.str p.2] by rw [cutT_map, cutT_tail, zipT_map]]
    refine ⟨by have := hg.le; simp at *; omega, lc_map (fun p : Str × Str => T.tup [T.str p.1, T.str p.2]) (fun c => (false, .bl true)) _ (fun c hc Kb hk => ?_) ?_⟩
    · repeat (first | refine ⟨_, rfl, rfl, List.nodup_nil, ?_⟩ | refine ⟨_, rfl, Nat.le_of_ble_eq_true rfl, ?_⟩ | refine ⟨_, rfl, ?_⟩ | refine ⟨_, _, rfl, rfl, ?_⟩ | refine ⟨_, _, _, rfl, rfl, by decide +kernel, ?_⟩ | refine Or.inl ⟨_, rfl, ?_⟩ | refine Or.inr ⟨_, rfl, ?_⟩ | refine Or.inl ⟨_, _, rfl, rfl, ?_⟩ | refine ⟨_, _, rfl, ?_⟩ | refine ⟨rfl, ?_⟩ | refine ⟨⟨_, rfl⟩, ?_⟩ | refine Or.inl ⟨_, _, _, rfl, rfl, rfl, ?_⟩ | refine ⟨_, _, _, rfl, rfl, ?_⟩)
      refine Or.inr ⟨_, _, rfl, rfl, ?_⟩
      exact qv hk (by rw [hg.srt c hc])
    · rw [mkR_map]
      refine ⟨_, rfl, (ms.zip (ms.drop 1)).map fun _ => true, by simp [List.map_map, Function.comp_def], ?_⟩
      exact qo2 q (by simp)
def k_need_members : CT := fun us Q => ∃ ms, us = [strsT ms] ∧ MsOk ms ∧ Q (false, .non)
theorem ok_need_members {f : Addr} {fd : FuncData} {C_Lost : Addr} (B : Blt mg) (TX : Txt K mg C_Lost) (G_is_members : Callee P w K mg base "is_members" 2 1 (rc k_is_members)) (F : Fun K "need_members" "need_members" s_need_members f fd) : FnOk P w K mg base CX0 3 f fd ["members"] (spOf K 1 (rc k_need_members)) := by
  refine fn_r (k := 2) F sc_need_members rfl fun cdv A outer s H E hr => ⟨_, (qss_one (qs_if (qt_not (qt_val (q_callC G_is_members hr (by decide) rfl (qa_cons (qe_var (pv 0)) qa_nil)))) (qss_one qs_never) qss_nil)), ?_⟩
  -- names: 0 members
  rintro us Q hl ⟨ms, rfl, hg, q⟩
  repeat (first | refine ⟨_, rfl, rfl, List.nodup_nil, ?_⟩ | refine ⟨_, rfl, Nat.le_of_ble_eq_true rfl, ?_⟩ | refine ⟨_, rfl, ?_⟩ | refine ⟨_, _, rfl, rfl, ?_⟩ | refine ⟨_, _, _, rfl, rfl, by decide +kernel, ?_⟩ | refine Or.inl ⟨_, rfl, ?_⟩ | refine Or.inr ⟨_, rfl, ?_⟩ | refine Or.inl ⟨_, _, rfl, rfl, ?_⟩ | refine ⟨_, _, rfl, ?_⟩ | refine ⟨rfl, ?_⟩ | refine ⟨⟨_, rfl⟩, ?_⟩ | refine Or.inl ⟨_, _, _, rfl, rfl, rfl, ?_⟩ | refine ⟨_, _, _, rfl, rfl, ?_⟩)
  refine ⟨hg, ?_⟩
  repeat (first | refine ⟨_, rfl, rfl, List.nodup_nil, ?_⟩ | refine ⟨_, rfl, Nat.le_of_ble_eq_true rfl, ?_⟩ | refine ⟨_, rfl, ?_⟩ | refine ⟨_, _, rfl, rfl, ?_⟩ | refine ⟨_, _, _, rfl, rfl, by decide +kernel, ?_⟩ | refine Or.inl ⟨_, rfl, ?_⟩ | refine Or.inr ⟨_, rfl, ?_⟩ | refine Or.inl ⟨_, _, rfl, rfl, ?_⟩ | refine ⟨_, _, rfl, ?_⟩ | refine ⟨rfl, ?_⟩ | refine ⟨⟨_, rfl⟩, ?_⟩ | refine Or.inl ⟨_, _, _, rfl, rfl, rfl, ?_⟩ | refine ⟨_, _, _, rfl, rfl, ?_⟩)
  exact q
def k_is_member : CT := fun us Q => ∃ ms v, us = [strsT ms, .str v] ∧ Q (false, .bl (decide (v ∈ ms)))
theorem ok_is_member {f : Addr} {fd : FuncData} {C_Lost : Addr} (B : Blt mg) (TX : Txt K mg C_Lost)  (F : Fun K "is_member" "is_member" s_is_member f fd) : FnOk P w K mg base CX0 1 f fd ["members", "value"] (spOf K 2 (rc k_is_member)) := by
  refine fn_r (k := 0) F sc_is_member rfl fun cdv A outer s H E hr => ⟨_, (qss_one (qs_ret (q_and (q_isi rfl B.isinstance (qa_cons (qe_var (pv 1)) (qa_cons (qe_c (pe_bltn (v := .ty "str") rfl B.str rfl rfl)) qa_nil))) (q_one (q_cmp qc_in (qe_var (pv 1)) (qe_var (pv 0)) (by rfl)))))), ?_⟩
  -- names: 0 members, 1 value
  rintro us Q hl ⟨ms, v, rfl, q⟩
  repeat (first | refine ⟨_, rfl, rfl, List.nodup_nil, ?_⟩ | refine ⟨_, rfl, Nat.le_of_ble_eq_true rfl, ?_⟩ | refine ⟨_, rfl, ?_⟩ | refine ⟨_, _, rfl, rfl, ?_⟩ | refine ⟨_, _, _, rfl, rfl, by decide +kernel, ?_⟩ | refine Or.inl ⟨_, rfl, ?_⟩ | refine Or.inr ⟨_, rfl, ?_⟩ | refine Or.inl ⟨_, _, rfl, rfl, ?_⟩ | refine ⟨_, _, rfl, ?_⟩ | refine ⟨rfl, ?_⟩ | refine ⟨⟨_, rfl⟩, ?_⟩ | refine Or.inl ⟨_, _, _, rfl, rfl, rfl, ?_⟩ | refine ⟨_, _, _, rfl, rfl, ?_⟩)
  exact ⟨_, tin_strs v ms, q⟩
def k_need_member : CT := fun us Q => ∃ ms v, us = [strsT ms, .str v] ∧ v ∈ ms ∧ Q (false, .non)
theorem ok_need_member {f : Addr} {fd : FuncData} {C_Lost : Addr} (B : Blt mg) (TX : Txt K mg C_Lost) (G_is_member : Callee P w K mg base "is_member" 1 2 (rc k_is_member)) (F : Fun K "need_member" "need_member" s_need_member f fd) : FnOk P w K mg base CX0 2 f fd ["members", "value"] (spOf K 2 (rc k_need_member)) := by
  refine fn_r (k := 1) F sc_need_member rfl fun cdv A outer s H E hr => ⟨_, (qss_one (qs_if (qt_not (qt_val (q_callC G_is_member hr (by decide) rfl (qa_cons (qe_var (pv 0)) (qa_cons (qe_var (pv 1)) qa_nil))))) (qss_one qs_never) qss_nil)), ?_⟩
  -- names: 0 members, 1 value
  rintro us Q hl ⟨ms, v, rfl, hv, q⟩
  repeat (first | refine ⟨_, rfl, rfl, List.nodup_nil, ?_⟩ | refine ⟨_, rfl, Nat.le_of_ble_eq_true rfl, ?_⟩ | refine ⟨_, rfl, ?_⟩ | refine ⟨_, _, rfl, rfl, ?_⟩ | refine ⟨_, _, _, rfl, rfl, by decide +kernel, ?_⟩ | refine Or.inl ⟨_, rfl, ?_⟩ | refine Or.inr ⟨_, rfl, ?_⟩ | refine Or.inl ⟨_, _, rfl, rfl, ?_⟩ | refine ⟨_, _, rfl, ?_⟩ | refine ⟨rfl, ?_⟩ | refine ⟨⟨_, rfl⟩, ?_⟩ | refine Or.inl ⟨_, _, _, rfl, rfl, rfl, ?_⟩ | refine ⟨_, _, _, rfl, rfl, ?_⟩)
  refine iteFq (by simp [hv]) ?_
  exact q
/-- good lists of members -/
structure LsOk (ms : List Str) (L : Str → List Str) : Prop extends MsOk ms where
  nd : ms.Nodup
  giv : ∀ m ∈ ms, ∀ g ∈ L m, g ∈ ms ∧ g ≠ m
  few : ∀ m ∈ ms, (L m).length ≤ 1000
def listsT (ms : List Str) (L : Str → List Str) : T := dmap ms fun m => strsT (L m)
def k_are_lists_of : CT := fun us Q => ∃ ms L, us = [strsT ms, listsT ms L] ∧ LsOk ms L ∧ Q (false, .bl true)
theorem ok_are_lists_of {f : Addr} {fd : FuncData} {C_Lost : Addr} (B : Blt mg) (TX : Txt K mg C_Lost) (G_is_member : Callee P w K mg base "is_member" 1 2 (rc k_is_member)) (F : Fun K "are_lists_of" "are_lists_of" s_are_lists_of f fd) : FnOk P w K mg base CX0 2 f fd ["members", "value"] (spOf K 2 (rc k_are_lists_of)) := by
  refine fn_r (k := 1) F sc_are_lists_of rfl fun cdv A outer s H E hr => ⟨_, (qss_cons (qs_if (QW.qt (qw_or (qt_not (qt_val (q_isi rfl B.isinstance (qa_cons (qe_var (pv 1)) (qa_cons (qe_c (pe_bltn (v := .ty "dict") rfl B.dict rfl rfl)) qa_nil))))) (qw_or (qt_cmp (qc_ne (Room.hu hr)) (q_len rfl B.len (qa_cons (qe_var (pv 1)) qa_nil)) (q_len rfl B.len (qa_cons (qe_var (pv 0)) qa_nil)) (by rfl)) (qw_or1 (qt_not (qt_val (q_all rfl rfl B.all (qa_cons (q_lc (own := [("member", 2)]) rfl sc_are_lists_of.nd (qi_list (qe_var (pv 0))) (blkOk_by (N := N_are_lists_of) (sc := defScope s_are_lists_of) (by decide +kernel)) (fun _ _ _ _ _ => (gq_name (pg_name (i := 2) sc_are_lists_of.nd rfl (by first | exact Or.inl rfl | exact Or.inr rfl)))) (fun _ _ _ _ _ => qts_nil) (fun _ _ _ _ _ => (q_din (Room.hu1 hr) (qe_var (pv 2)) (qe_var (pv 1))))) qa_nil)))))))) (qss_one (qs_ret (qe_c pe_bl))) qss_nil)
      (qss_cons (qs_for PassesOwn.never rfl (qi_list (qe_var (pv 0))) (gq_name (pg_name (i := 2) sc_are_lists_of.nd rfl (by first | exact Or.inl rfl | exact Or.inr rfl))) (qss_cons (qs_setF (ps_set (i := 3) sc_are_lists_of.nd rfl (by first | exact Or.inl rfl | exact Or.inr rfl) (q_dget (Room.hu1 hr) (qe_var (pv 1)) (qe_var (pv 2)) (fun _ _ => rfl))) (hp := by decide))
      (qss_cons (qs_if (qt_not (qt_val (q_isi rfl B.isinstance (qa_cons (qe_var (pv 3)) (qa_cons (qe_c (pe_bltn (v := .ty "list") rfl B.list rfl rfl)) qa_nil))))) (qss_one (qs_ret (qe_c pe_bl))) qss_nil)
      (qss_one (qs_if (qt_not (qt_val (q_all rfl rfl B.all (qa_cons (q_lc (own := [("giver", 4)]) rfl sc_are_lists_of.nd (qi_list (qe_var (pv 3))) (blkOk_by (N := N_are_lists_of) (sc := defScope s_are_lists_of) (by decide +kernel)) (fun _ _ _ _ _ => (gq_name (pg_name (i := 4) sc_are_lists_of.nd rfl (by first | exact Or.inl rfl | exact Or.inr rfl)))) (fun _ _ _ _ _ => qts_nil) (fun _ _ _ _ _ => (q_and (q_callC G_is_member hr (by decide) rfl (qa_cons (qe_var (pv 0)) (qa_cons (qe_var (pv 4)) qa_nil))) (q_one (q_cmp (qc_ne (Room.hu hr)) (qe_var (pv 4)) (qe_var (pv 2)) (by rfl)))))) qa_nil)))) (qss_one (qs_ret (qe_c pe_bl))) qss_nil)))) (hpn := by decide))
      (qss_one (qs_ret (qe_c pe_bl))))), ?_⟩
  -- names: 0 members, 1 value, 2 member, 3 entries, 4 giver
  rintro us Q hl ⟨ms, L, rfl, hg, q⟩
  repeat (first | refine ⟨_, rfl, rfl, List.nodup_nil, ?_⟩ | refine ⟨_, rfl, Nat.le_of_ble_eq_true rfl, ?_⟩ | refine ⟨_, rfl, ?_⟩ | refine ⟨_, _, rfl, rfl, ?_⟩ | refine ⟨_, _, _, rfl, rfl, by decide +kernel, ?_⟩ | refine Or.inl ⟨_, rfl, ?_⟩ | refine Or.inr ⟨_, rfl, ?_⟩ | refine Or.inl ⟨_, _, rfl, rfl, ?_⟩ | refine ⟨_, _, rfl, ?_⟩ | refine ⟨rfl, ?_⟩ | refine ⟨⟨_, rfl⟩, ?_⟩ | refine Or.inl ⟨_, _, _, rfl, rfl, rfl, ?_⟩ | refine ⟨_, _, _, rfl, rfl, ?_⟩)
  refine iteFq (by simp [PyData.eqv]) ?_
  repeat (first | refine ⟨_, rfl, rfl, List.nodup_nil, ?_⟩ | refine ⟨_, rfl, Nat.le_of_ble_eq_true rfl, ?_⟩ | refine ⟨_, rfl, ?_⟩ | refine ⟨_, _, rfl, rfl, ?_⟩ | refine ⟨_, _, _, rfl, rfl, by decide +kernel, ?_⟩ | refine Or.inl ⟨_, rfl, ?_⟩ | refine Or.inr ⟨_, rfl, ?_⟩ | refine Or.inl ⟨_, _, rfl, rfl, ?_⟩ | refine ⟨_, _, rfl, ?_⟩ | refine ⟨rfl, ?_⟩ | refine ⟨⟨_, rfl⟩, ?_⟩ | refine Or.inl ⟨_, _, _, rfl, rfl, rfl, ?_⟩ | refine ⟨_, _, _, rfl, rfl, ?_⟩)
  refine ⟨by have := hg.le; simp at *; omega, lc_map T.str (fun c => (false, .bl true)) ms (fun c hc Kb hk => ?_) ?_⟩
  · repeat (first | refine ⟨_, rfl, rfl, List.nodup_nil, ?_⟩ | refine ⟨_, rfl, Nat.le_of_ble_eq_true rfl, ?_⟩ | refine ⟨_, rfl, ?_⟩ | refine ⟨_, _, rfl, rfl, ?_⟩ | refine ⟨_, _, _, rfl, rfl, by decide +kernel, ?_⟩ | refine Or.inl ⟨_, rfl, ?_⟩ | refine Or.inr ⟨_, rfl, ?_⟩ | refine Or.inl ⟨_, _, rfl, rfl, ?_⟩ | refine ⟨_, _, rfl, ?_⟩ | refine ⟨rfl, ?_⟩ | refine ⟨⟨_, rfl⟩, ?_⟩ | refine Or.inl ⟨_, _, _, rfl, rfl, rfl, ?_⟩ | refine ⟨_, _, _, rfl, rfl, ?_⟩)
    exact qv hk (by rw [dget_map]; simp [hc])
  rw [mkR_map]
  refine ⟨_, rfl, ms.map fun _ => true, by simp [List.map_map, Function.comp_def], ?_⟩
  repeat (first | refine ⟨_, rfl, rfl, List.nodup_nil, ?_⟩ | refine ⟨_, rfl, Nat.le_of_ble_eq_true rfl, ?_⟩ | refine ⟨_, rfl, ?_⟩ | refine ⟨_, _, rfl, rfl, ?_⟩ | refine ⟨_, _, _, rfl, rfl, by decide +kernel, ?_⟩ | refine Or.inl ⟨_, rfl, ?_⟩ | refine Or.inr ⟨_, rfl, ?_⟩ | refine Or.inl ⟨_, _, rfl, rfl, ?_⟩ | refine ⟨_, _, rfl, ?_⟩ | refine ⟨rfl, ?_⟩ | refine ⟨⟨_, rfl⟩, ?_⟩ | refine Or.inl ⟨_, _, _, rfl, rfl, rfl, ?_⟩ | refine ⟨_, _, _, rfl, rfl, ?_⟩)
  refine iteFq (by simp) ?_
  repeat (first | refine ⟨_, rfl, rfl, List.nodup_nil, ?_⟩ | refine ⟨_, rfl, Nat.le_of_ble_eq_true rfl, ?_⟩ | refine ⟨_, rfl, ?_⟩ | refine ⟨_, _, rfl, rfl, ?_⟩ | refine ⟨_, _, _, rfl, rfl, by decide +kernel, ?_⟩ | refine Or.inl ⟨_, rfl, ?_⟩ | refine Or.inr ⟨_, rfl, ?_⟩ | refine Or.inl ⟨_, _, rfl, rfl, ?_⟩ | refine ⟨_, _, rfl, ?_⟩ | refine ⟨rfl, ?_⟩ | refine ⟨⟨_, rfl⟩, ?_⟩ | refine Or.inl ⟨_, _, _, rfl, rfl, rfl, ?_⟩ | refine ⟨_, _, _, rfl, rfl, ?_⟩)
  refine for_rec T.str (fun xs e => (∀ x ∈ xs, x ∈ ms) ∧ ∃ o2 o3 o4, e = [some (false, strsT ms), some (false, listsT ms L), o2, o3, o4]) ?_ ?_ ms _ ⟨fun _ h => h, _, _, _, rfl⟩
  · rintro e ⟨_, o2, o3, o4, rfl⟩
    exact q
  · rintro x xs e N ⟨hx, o2, o3, o4, rfl⟩ hN
    have hxm := hx x List.mem_cons_self
    refine ⟨_, rfl, _, rfl, ?_⟩
    refine ⟨_, _, _, _, rfl, rfl, by rw [dget_map, if_pos hxm], ?_⟩
    repeat (first | refine ⟨_, rfl, rfl, List.nodup_nil, ?_⟩ | refine ⟨_, rfl, Nat.le_of_ble_eq_true rfl, ?_⟩ | refine ⟨_, rfl, ?_⟩ | refine ⟨_, _, rfl, rfl, ?_⟩ | refine ⟨_, _, _, rfl, rfl, by decide +kernel, ?_⟩ | refine Or.inl ⟨_, rfl, ?_⟩ | refine Or.inr ⟨_, rfl, ?_⟩ | refine Or.inl ⟨_, _, rfl, rfl, ?_⟩ | refine ⟨_, _, rfl, ?_⟩ | refine ⟨rfl, ?_⟩ | refine ⟨⟨_, rfl⟩, ?_⟩ | refine Or.inl ⟨_, _, _, rfl, rfl, rfl, ?_⟩ | refine ⟨_, _, _, rfl, rfl, ?_⟩)
    refine ⟨by have := hg.few x hxm; simp at *; omega, lc_map T.str (fun c => (false, .bl true)) (L x) (fun c hc Kb hk => ?_) ?_⟩
    · have hgv := hg.giv x hxm c hc
      repeat (first | refine ⟨_, rfl, rfl, List.nodup_nil, ?_⟩ | refine ⟨_, rfl, Nat.le_of_ble_eq_true rfl, ?_⟩ | refine ⟨_, rfl, ?_⟩ | refine ⟨_, _, rfl, rfl, ?_⟩ | refine ⟨_, _, _, rfl, rfl, by decide +kernel, ?_⟩ | refine Or.inl ⟨_, rfl, ?_⟩ | refine Or.inr ⟨_, rfl, ?_⟩ | refine Or.inl ⟨_, _, rfl, rfl, ?_⟩ | refine ⟨_, _, rfl, ?_⟩ | refine ⟨rfl, ?_⟩ | refine ⟨⟨_, rfl⟩, ?_⟩ | refine Or.inl ⟨_, _, _, rfl, rfl, rfl, ?_⟩ | refine ⟨_, _, _, rfl, rfl, ?_⟩)
      refine iteTq (decide_eq_true hgv.1) ?_
      refine ⟨_, rfl, _, rfl, _, teq_str (hg.good c hgv.1).ok (hg.good x hxm).ok, ?_⟩
      exact qv hk (by simp [hgv.2])
    rw [mkR_map]
    refine ⟨_, rfl, (L x).map fun _ => true, by simp [List.map_map, Function.comp_def], ?_⟩
    repeat (first | refine ⟨_, rfl, rfl, List.nodup_nil, ?_⟩ | refine ⟨_, rfl, Nat.le_of_ble_eq_true rfl, ?_⟩ | refine ⟨_, rfl, ?_⟩ | refine ⟨_, _, rfl, rfl, ?_⟩ | refine ⟨_, _, _, rfl, rfl, by decide +kernel, ?_⟩ | refine Or.inl ⟨_, rfl, ?_⟩ | refine Or.inr ⟨_, rfl, ?_⟩ | refine Or.inl ⟨_, _, rfl, rfl, ?_⟩ | refine ⟨_, _, rfl, ?_⟩ | refine ⟨rfl, ?_⟩ | refine ⟨⟨_, rfl⟩, ?_⟩ | refine Or.inl ⟨_, _, _, rfl, rfl, rfl, ?_⟩ | refine ⟨_, _, _, rfl, rfl, ?_⟩)
    refine iteFq (by simp) ?_
    exact hN _ ⟨fun y hy => hx y (List.mem_cons_of_mem _ hy), _, _, _, rfl⟩
def k_need_lists : CT := fun us Q => ∃ ms f L, us = [strsT ms, .str f, listsT ms L] ∧ LsOk ms L ∧ f ∈ ms ∧ Q (false, .non)
theorem ok_need_lists {f : Addr} {fd : FuncData} {C_Lost : Addr} (B : Blt mg) (TX : Txt K mg C_Lost) (G_need_members : Callee P w K mg base "need_members" 3 1 (rc k_need_members)) (G_need_member : Callee P w K mg base "need_member" 2 2 (rc k_need_member)) (G_are_lists_of : Callee P w K mg base "are_lists_of" 2 2 (rc k_are_lists_of)) (F : Fun K "need_lists" "need_lists" s_need_lists f fd) : FnOk P w K mg base CX0 4 f fd ["members", "first", "lists"] (spOf K 3 (rc k_need_lists)) := by
  refine fn_r (k := 3) F sc_need_lists rfl fun cdv A outer s H E hr => ⟨_, (qss_cons (qs_expr (q_callC G_need_members hr (by decide) rfl (qa_cons (qe_var (pv 0)) qa_nil)))
      (qss_cons (qs_expr (q_callC G_need_member hr (by decide) rfl (qa_cons (qe_var (pv 0)) (qa_cons (qe_var (pv 1)) qa_nil))))
      (qss_one (qs_if (qt_not (qt_val (q_callC G_are_lists_of hr (by decide) rfl (qa_cons (qe_var (pv 0)) (qa_cons (qe_var (pv 2)) qa_nil))))) (qss_one qs_never) qss_nil)))), ?_⟩
  -- names: 0 members, 1 first, 2 lists
  rintro us Q hl ⟨ms, f, L, rfl, hg, hf, q⟩
  repeat (first | refine ⟨_, rfl, rfl, List.nodup_nil, ?_⟩ | refine ⟨_, rfl, Nat.le_of_ble_eq_true rfl, ?_⟩ | refine ⟨_, rfl, ?_⟩ | refine ⟨_, _, rfl, rfl, ?_⟩ | refine ⟨_, _, _, rfl, rfl, by decide +kernel, ?_⟩ | refine Or.inl ⟨_, rfl, ?_⟩ | refine Or.inr ⟨_, rfl, ?_⟩ | refine Or.inl ⟨_, _, rfl, rfl, ?_⟩ | refine ⟨_, _, rfl, ?_⟩ | refine ⟨rfl, ?_⟩ | refine ⟨⟨_, rfl⟩, ?_⟩ | refine Or.inl ⟨_, _, _, rfl, rfl, rfl, ?_⟩ | refine ⟨_, _, _, rfl, rfl, ?_⟩)
  refine ⟨hg.toMsOk, ?_⟩
  repeat (first | refine ⟨_, rfl, rfl, List.nodup_nil, ?_⟩ | refine ⟨_, rfl, Nat.le_of_ble_eq_true rfl, ?_⟩ | refine ⟨_, rfl, ?_⟩ | refine ⟨_, _, rfl, rfl, ?_⟩ | refine ⟨_, _, _, rfl, rfl, by decide +kernel, ?_⟩ | refine Or.inl ⟨_, rfl, ?_⟩ | refine Or.inr ⟨_, rfl, ?_⟩ | refine Or.inl ⟨_, _, rfl, rfl, ?_⟩ | refine ⟨_, _, rfl, ?_⟩ | refine ⟨rfl, ?_⟩ | refine ⟨⟨_, rfl⟩, ?_⟩ | refine Or.inl ⟨_, _, _, rfl, rfl, rfl, ?_⟩ | refine ⟨_, _, _, rfl, rfl, ?_⟩)
  refine ⟨hf, ?_⟩
  repeat (first | refine ⟨_, rfl, rfl, List.nodup_nil, ?_⟩ | refine ⟨_, rfl, Nat.le_of_ble_eq_true rfl, ?_⟩ | refine ⟨_, rfl, ?_⟩ | refine ⟨_, _, rfl, rfl, ?_⟩ | refine ⟨_, _, _, rfl, rfl, by decide +kernel, ?_⟩ | refine Or.inl ⟨_, rfl, ?_⟩ | refine Or.inr ⟨_, rfl, ?_⟩ | refine Or.inl ⟨_, _, rfl, rfl, ?_⟩ | refine ⟨_, _, rfl, ?_⟩ | refine ⟨rfl, ?_⟩ | refine ⟨⟨_, rfl⟩, ?_⟩ | refine Or.inl ⟨_, _, _, rfl, rfl, rfl, ?_⟩ | refine ⟨_, _, _, rfl, rfl, ?_⟩)
  refine ⟨hg, ?_⟩
  repeat (first | refine ⟨_, rfl, rfl, List.nodup_nil, ?_⟩ | refine ⟨_, rfl, Nat.le_of_ble_eq_true rfl, ?_⟩ | refine ⟨_, rfl, ?_⟩ | refine ⟨_, _, rfl, rfl, ?_⟩ | refine ⟨_, _, _, rfl, rfl, by decide +kernel, ?_⟩ | refine Or.inl ⟨_, rfl, ?_⟩ | refine Or.inr ⟨_, rfl, ?_⟩ | refine Or.inl ⟨_, _, rfl, rfl, ?_⟩ | refine ⟨_, _, rfl, ?_⟩ | refine ⟨rfl, ?_⟩ | refine ⟨⟨_, rfl⟩, ?_⟩ | refine Or.inl ⟨_, _, _, rfl, rfl, rfl, ?_⟩ | refine ⟨_, _, _, rfl, rfl, ?_⟩)
  exact q
theorem fold_count (l : List Str) : ∀ c : Str → Nat, l.foldl (fun c g x => c x + if x = g then 1 else 0) c = fun x => c x + l.count x := by
  induction l with
  | nil => intro c; simp
  | cons a l ih =>
    intro c
    rw [List.foldl_cons, ih]
    funext x
    rw [List.count_cons]
    by_cases h : x = a
    · subst h; simp; omega
    · have h' : ¬ a = x := fun e => h e.symm
      simp [h, h']
theorem fold_named (L : Str → List Str) (l : List Str) : ∀ c : Str → Nat, l.foldl (fun c m x => c x + (L m).count x) c = fun x => c x + (l.map fun m => (L m).count x).sum := by
  induction l with
  | nil => intro c; simp
  | cons a l ih =>
    intro c
    rw [List.foldl_cons, ih]
    funext x
    simp; omega
/-- how often a name is named -/
def namedBy (ms : List Str) (L : Str → List Str) (m : Str) : Nat := (ms.map fun x => (L x).count m).sum
def k_uses_of : CT := fun us Q => ∃ ms f L, us = [strsT ms, .str f, listsT ms L] ∧ LsOk ms L ∧ f ∈ ms ∧ ∀ fl, Q (fl, dmap ms fun m => .tup [.int ((L m).length + if m = f then 1 else 0), .int (namedBy ms L m)])
theorem ok_uses_of {f : Addr} {fd : FuncData} {C_Lost : Addr} (B : Blt mg) (TX : Txt K mg C_Lost)  (F : Fun K "uses_of" "uses_of" s_uses_of f fd) : FnOk P w K mg base CX0 1 f fd ["members", "first", "lists"] (spOf K 3 (rc k_uses_of)) := by
  refine fn_r (k := 0) F sc_uses_of rfl fun cdv A outer s H E hr => ⟨_, (qss_cons (qs_set (ps_set (i := 3) sc_uses_of.nd rfl (by first | exact Or.inl rfl | exact Or.inr rfl) (q_dc (own := [("member", 6)]) rfl sc_uses_of.nd (qi_list (qe_var (pv 0))) (blkOk_by (N := N_uses_of) (sc := defScope s_uses_of) (by decide +kernel)) (fun _ _ _ _ _ => (gq_name (pg_name (i := 6) sc_uses_of.nd rfl (by first | exact Or.inl rfl | exact Or.inr rfl)))) (fun _ _ _ _ _ => qts_nil) (fun _ _ _ _ _ => (qe_var (pv 6))) (fun _ _ _ _ _ => (qe_c pe_int)))) (hp := by decide))
      (qss_cons (qs_for PassesOwn.never rfl (qi_values (qe_var (pv 2))) (gq_name (pg_name (i := 4) sc_uses_of.nd rfl (by first | exact Or.inl rfl | exact Or.inr rfl))) (qss_one (qs_for PassesOwn.never rfl (qi_list (qe_var (pv 4))) (gq_name (pg_name (i := 5) sc_uses_of.nd rfl (by first | exact Or.inl rfl | exact Or.inr rfl))) (qss_one (qs_daug (Room.hu1 hr) in_add br_in_add (qp_slot (pv 3)) (qe_var (pv 5)) (qe_c pe_int))) (hpn := by decide))) (hpn := by decide))
      (qss_one (qs_ret (q_quiet (q_dc (own := [("member", 6)]) rfl sc_uses_of.nd (qi_list (qe_var (pv 0))) (blkOk_by (N := N_uses_of) (sc := defScope s_uses_of) (by decide +kernel)) (fun _ _ _ _ _ => (gq_name (pg_name (i := 6) sc_uses_of.nd rfl (by first | exact Or.inl rfl | exact Or.inr rfl)))) (fun _ _ _ _ _ => qts_nil) (fun _ _ _ _ _ => (qe_var (pv 6))) (fun _ _ _ _ _ => (q_tupO (qa_cons (q_add (q_len rfl B.len (qa_cons (q_dget (Room.hu1 hr) (qe_var (pv 2)) (qe_var (pv 6)) (fun _ _ => rfl)) qa_nil)) (q_int rfl B.int (qa_cons (q_cmp (qc_eq (Room.hu hr)) (qe_var (pv 6)) (qe_var (pv 1)) (by rfl)) qa_nil))) (qa_cons (q_dget (Room.hu1 hr) (qe_var (pv 3)) (qe_var (pv 6)) (fun _ _ => rfl)) qa_nil)))))))))), ?_⟩
  -- names: 0 members, 1 first, 2 lists, 3 named, 4 entries, 5 giver, 6 member
  rintro us Q hl ⟨ms, f, L, rfl, hg, hf, q⟩
  repeat (first | refine ⟨_, rfl, rfl, List.nodup_nil, ?_⟩ | refine ⟨_, rfl, Nat.le_of_ble_eq_true rfl, ?_⟩ | refine ⟨_, rfl, ?_⟩ | refine ⟨_, _, rfl, rfl, ?_⟩ | refine ⟨_, _, _, rfl, rfl, by decide +kernel, ?_⟩ | refine Or.inl ⟨_, rfl, ?_⟩ | refine Or.inr ⟨_, rfl, ?_⟩ | refine Or.inl ⟨_, _, rfl, rfl, ?_⟩ | refine ⟨_, _, rfl, ?_⟩ | refine ⟨rfl, ?_⟩ | refine ⟨⟨_, rfl⟩, ?_⟩ | refine Or.inl ⟨_, _, _, rfl, rfl, rfl, ?_⟩ | refine ⟨_, _, _, rfl, rfl, ?_⟩)
  refine ⟨by have := hg.le; simp at *; omega, dc_map T.str Sum.inr (fun _ => (false, .int 0)) ms (fun c hc Kb hk => ?_) (nodup_inr hg.nd) ?_⟩
  · repeat (first | refine ⟨_, rfl, rfl, List.nodup_nil, ?_⟩ | refine ⟨_, rfl, Nat.le_of_ble_eq_true rfl, ?_⟩ | refine ⟨_, rfl, ?_⟩ | refine ⟨_, _, rfl, rfl, ?_⟩ | refine ⟨_, _, _, rfl, rfl, by decide +kernel, ?_⟩ | refine Or.inl ⟨_, rfl, ?_⟩ | refine Or.inr ⟨_, rfl, ?_⟩ | refine Or.inl ⟨_, _, rfl, rfl, ?_⟩ | refine ⟨_, _, rfl, ?_⟩ | refine ⟨rfl, ?_⟩ | refine ⟨⟨_, rfl⟩, ?_⟩ | refine Or.inl ⟨_, _, _, rfl, rfl, rfl, ?_⟩ | refine ⟨_, _, _, rfl, rfl, ?_⟩)
    exact hk
  rw [show (((ms.map fun _ => ((false, T.int 0) : R)).all okO, T.dct (ms.map Sum.inr) ((ms.map fun _ => ((false, T.int 0) : R)).map fun x => x.2)) : R) = (true, dmap ms fun _ => .int 0) from by simp [dmap, Function.comp_def, okO, T.isAv]]
  refine ⟨_, rfl, _, _, rfl, ?_⟩
  -- for entries in lists.values()
  refine for_fold (fun m => strsT (L m)) (fun (c : Str → Nat) e => ∃ o4 o5, e = [some (false, strsT ms), some (false, .str f), some (false, listsT ms L), some (true, dmap ms fun m => .int (c m)), o4, o5, none]) (fun c m x => c x + (L m).count x) ms (fun _ => 0) _ ?_ ⟨_, _, rfl⟩ ?_
  · rintro m hm c e N ⟨o4, o5, rfl⟩ hN
    refine ⟨_, rfl, _, rfl, ?_⟩
    refine for_fold T.str (fun (c : Str → Nat) e => ∃ o4 o5, e = [some (false, strsT ms), some (false, .str f), some (false, listsT ms L), some (true, dmap ms fun m => .int (c m)), o4, o5, none]) (fun c g x => c x + if x = g then 1 else 0) (L m) c _ ?_ ⟨_, _, rfl⟩ ?_
    · rintro g hg' c e N ⟨o4, o5, rfl⟩ hN
      have hgm := (hg.giv m hm g hg').1
      obtain ⟨j, h1, h2⟩ := kidx_map hgm
      refine ⟨⟨_, rfl⟩, _, rfl, ?_⟩
      refine ⟨_, _, _, j, V.int (c g), rfl, rfl, h1, by rw [List.getElem?_map, h2]; rfl, nodup_inr hg.nd, by have := hg.le; simp at *; omega, ?_⟩
      refine ⟨_, _, rfl, rfl, _, rfl, ?_⟩
      refine hN _ ⟨o4, some (false, .str g), ?_⟩
      have e1 : (List.map (fun m => T.int (c m : Int)) ms).set j (T.av (V.int ((c g : Int) + 1))) = ms.map fun m => T.int ((c m + if m = g then 1 else 0 : Nat) : Int) := by
        rw [set_map hg.nd h2]
        apply List.map_congr_left
        intro x hx
        by_cases h : x = g
        · subst h; simp
        · simp [h]
      exact congrArg (fun l => [some (false, strsT ms), some (false, T.str f), some (false, listsT ms L), some (true, T.dct (ms.map Sum.inr) l), o4, some (false, T.str g), none]) e1
    · rintro e ⟨o4, o5, rfl⟩
      refine hN _ ⟨o4, o5, ?_⟩
      rw [fold_count]
  · rintro e ⟨o4, o5, rfl⟩
    rw [fold_named]
    repeat (first | refine ⟨_, rfl, rfl, List.nodup_nil, ?_⟩ | refine ⟨_, rfl, Nat.le_of_ble_eq_true rfl, ?_⟩ | refine ⟨_, rfl, ?_⟩ | refine ⟨_, _, rfl, rfl, ?_⟩ | refine ⟨_, _, _, rfl, rfl, by decide +kernel, ?_⟩ | refine Or.inl ⟨_, rfl, ?_⟩ | refine Or.inr ⟨_, rfl, ?_⟩ | refine Or.inl ⟨_, _, rfl, rfl, ?_⟩ | refine ⟨_, _, rfl, ?_⟩ | refine ⟨rfl, ?_⟩ | refine ⟨⟨_, rfl⟩, ?_⟩ | refine Or.inl ⟨_, _, _, rfl, rfl, rfl, ?_⟩ | refine ⟨_, _, _, rfl, rfl, ?_⟩)
    refine ⟨by have := hg.le; simp at *; omega, dc_map T.str Sum.inr (fun m => (true, .tup [.int ((L m).length + if m = f then 1 else 0), .int (namedBy ms L m)])) ms (fun c hc Kb hk => ?_) (nodup_inr hg.nd) ?_⟩
    · repeat (first | refine ⟨_, rfl, rfl, List.nodup_nil, ?_⟩ | refine ⟨_, rfl, Nat.le_of_ble_eq_true rfl, ?_⟩ | refine ⟨_, rfl, ?_⟩ | refine ⟨_, _, rfl, rfl, ?_⟩ | refine ⟨_, _, _, rfl, rfl, by decide +kernel, ?_⟩ | refine Or.inl ⟨_, rfl, ?_⟩ | refine Or.inr ⟨_, rfl, ?_⟩ | refine Or.inl ⟨_, _, rfl, rfl, ?_⟩ | refine ⟨_, _, rfl, ?_⟩ | refine ⟨rfl, ?_⟩ | refine ⟨⟨_, rfl⟩, ?_⟩ | refine Or.inl ⟨_, _, _, rfl, rfl, rfl, ?_⟩ | refine ⟨_, _, _, rfl, rfl, ?_⟩)
      refine ⟨_, _, _, _, rfl, rfl, by rw [dget_map, if_pos hc], ?_⟩
      repeat (first | refine ⟨_, rfl, rfl, List.nodup_nil, ?_⟩ | refine ⟨_, rfl, Nat.le_of_ble_eq_true rfl, ?_⟩ | refine ⟨_, rfl, ?_⟩ | refine ⟨_, _, rfl, rfl, ?_⟩ | refine ⟨_, _, _, rfl, rfl, by decide +kernel, ?_⟩ | refine Or.inl ⟨_, rfl, ?_⟩ | refine Or.inr ⟨_, rfl, ?_⟩ | refine Or.inl ⟨_, _, rfl, rfl, ?_⟩ | refine ⟨_, _, rfl, ?_⟩ | refine ⟨rfl, ?_⟩ | refine ⟨⟨_, rfl⟩, ?_⟩ | refine Or.inl ⟨_, _, _, rfl, rfl, rfl, ?_⟩ | refine ⟨_, _, _, rfl, rfl, ?_⟩)
      refine ⟨_, teq_str (hg.good c hc).ok (hg.good f hf).ok, ?_⟩
      repeat (first | refine ⟨_, rfl, rfl, List.nodup_nil, ?_⟩ | refine ⟨_, rfl, Nat.le_of_ble_eq_true rfl, ?_⟩ | refine ⟨_, rfl, ?_⟩ | refine ⟨_, _, rfl, rfl, ?_⟩ | refine ⟨_, _, _, rfl, rfl, by decide +kernel, ?_⟩ | refine Or.inl ⟨_, rfl, ?_⟩ | refine Or.inr ⟨_, rfl, ?_⟩ | refine Or.inl ⟨_, _, rfl, rfl, ?_⟩ | refine ⟨_, _, rfl, ?_⟩ | refine ⟨rfl, ?_⟩ | refine ⟨⟨_, rfl⟩, ?_⟩ | refine Or.inl ⟨_, _, _, rfl, rfl, rfl, ?_⟩ | refine ⟨_, _, _, rfl, rfl, ?_⟩)
      refine ⟨_, _, _, _, rfl, rfl, by rw [dget_map, if_pos hc], ?_⟩
      repeat (first | refine ⟨_, rfl, rfl, List.nodup_nil, ?_⟩ | refine ⟨_, rfl, Nat.le_of_ble_eq_true rfl, ?_⟩ | refine ⟨_, rfl, ?_⟩ | refine ⟨_, _, rfl, rfl, ?_⟩ | refine ⟨_, _, _, rfl, rfl, by decide +kernel, ?_⟩ | refine Or.inl ⟨_, rfl, ?_⟩ | refine Or.inr ⟨_, rfl, ?_⟩ | refine Or.inl ⟨_, _, rfl, rfl, ?_⟩ | refine ⟨_, _, rfl, ?_⟩ | refine ⟨rfl, ?_⟩ | refine ⟨⟨_, rfl⟩, ?_⟩ | refine Or.inl ⟨_, _, _, rfl, rfl, rfl, ?_⟩ | refine ⟨_, _, _, rfl, rfl, ?_⟩)
      have e2 : (if decide (c = f) = true then (1 : Int) else 0) = if c = f then 1 else 0 := by by_cases h : c = f <;> simp [h]
      have e3 : ((0 + (List.map (fun m => List.count c (L m)) ms).sum : Nat) : Int) = (namedBy ms L c : Int) := by simp [namedBy]
      have e4 : T.tup [.int (((L c).map T.str).length + if decide (c = f) = true then 1 else 0), .int ((0 + (List.map (fun m => List.count c (L m)) ms).sum : Nat) : Int)] = T.tup [.int ((L c).length + if c = f then 1 else 0), .int (namedBy ms L c)] := by rw [e2, e3, List.length_map]
      exact cast (congrArg (fun t => Kb (Sum.inr c) (true, t) _) e4.symm) hk
    · refine ⟨by simp [okO], ?_⟩
      exact qo2 (q true) (by simp [dmap, Function.comp_def, okO])
/-- a name's surplus -/
def surp (ms : List Str) (f : Str) (L : Str → List Str) (m : Str) : Int := ((L m).length + if m = f then 1 else 0) - namedBy ms L m
def bagT (ns : List Str) (c : Str → Int) : T := dmap ns fun n => .int (c n)
def k_surpluses_of : CT := fun us Q => ∃ ms f L, us = [strsT ms, .str f, listsT ms L] ∧ LsOk ms L ∧ f ∈ ms ∧ ∀ fl, Q (fl, bagT ms (surp ms f L))
theorem ok_surpluses_of {f : Addr} {fd : FuncData} {C_Lost : Addr} (B : Blt mg) (TX : Txt K mg C_Lost) (G_uses_of : Callee P w K mg base "uses_of" 1 3 (rc k_uses_of)) (F : Fun K "surpluses_of" "surpluses_of" s_surpluses_of f fd) : FnOk P w K mg base CX0 2 f fd ["members", "first", "lists"] (spOf K 3 (rc k_surpluses_of)) := by
  refine fn_r (k := 1) F sc_surpluses_of rfl fun cdv A outer s H E hr => ⟨_, (qss_one (qs_ret (q_dc (own := [("member", 3), ("had", 4), ("named", 5)]) rfl sc_surpluses_of.nd (qi_items (q_callC G_uses_of hr (by decide) rfl (qa_cons (qe_var (pv 0)) (qa_cons (qe_var (pv 1)) (qa_cons (qe_var (pv 2)) qa_nil))))) (blkOk_by (N := N_surpluses_of) (sc := defScope s_surpluses_of) (by decide +kernel)) (fun _ _ _ _ _ => (gq_tup (n := 2) rfl (gqs_cons (gq_name (pg_name (i := 3) sc_surpluses_of.nd rfl (by first | exact Or.inl rfl | exact Or.inr rfl))) (gqs_cons (gq_tup (n := 2) rfl (gqs_cons (gq_name (pg_name (i := 4) sc_surpluses_of.nd rfl (by first | exact Or.inl rfl | exact Or.inr rfl))) (gqs_cons (gq_name (pg_name (i := 5) sc_surpluses_of.nd rfl (by first | exact Or.inl rfl | exact Or.inr rfl))) gqs_nil))) gqs_nil)))) (fun _ _ _ _ _ => qts_nil) (fun _ _ _ _ _ => (qe_var (pv 3))) (fun _ _ _ _ _ => (q_sub (qe_var (pv 4)) (qe_var (pv 5))))))), ?_⟩
  -- names: 0 members, 1 first, 2 lists, 3 member, 4 had, 5 named
  rintro us Q hl ⟨ms, f, L, rfl, hg, hf, q⟩
  repeat (first | refine ⟨_, rfl, rfl, List.nodup_nil, ?_⟩ | refine ⟨_, rfl, Nat.le_of_ble_eq_true rfl, ?_⟩ | refine ⟨_, rfl, ?_⟩ | refine ⟨_, _, rfl, rfl, ?_⟩ | refine ⟨_, _, _, rfl, rfl, by decide +kernel, ?_⟩ | refine Or.inl ⟨_, rfl, ?_⟩ | refine Or.inr ⟨_, rfl, ?_⟩ | refine Or.inl ⟨_, _, rfl, rfl, ?_⟩ | refine ⟨_, _, rfl, ?_⟩ | refine ⟨rfl, ?_⟩ | refine ⟨⟨_, rfl⟩, ?_⟩ | refine Or.inl ⟨_, _, _, rfl, rfl, rfl, ?_⟩ | refine ⟨_, _, _, rfl, rfl, ?_⟩)
  refine ⟨_, _, _, rfl, hg, hf, fun fl => ?_⟩
  repeat (first | refine ⟨_, rfl, rfl, List.nodup_nil, ?_⟩ | refine ⟨_, rfl, Nat.le_of_ble_eq_true rfl, ?_⟩ | refine ⟨_, rfl, ?_⟩ | refine ⟨_, _, rfl, rfl, ?_⟩ | refine ⟨_, _, _, rfl, rfl, by decide +kernel, ?_⟩ | refine Or.inl ⟨_, rfl, ?_⟩ | refine Or.inr ⟨_, rfl, ?_⟩ | refine Or.inl ⟨_, _, rfl, rfl, ?_⟩ | refine ⟨_, _, rfl, ?_⟩ | refine ⟨rfl, ?_⟩ | refine ⟨⟨_, rfl⟩, ?_⟩ | refine Or.inl ⟨_, _, _, rfl, rfl, rfl, ?_⟩ | refine ⟨_, _, _, rfl, rfl, ?_⟩)
  rw [show zipT ((ms.map (Sum.inr : Str → Key)).map keyT) (ms.map fun m => T.tup [.int ((L m).length + if m = f then 1 else 0), .int (namedBy ms L m)]) = ms.map fun m => T.tup [.str m, T.tup [.int ((L m).length + if m = f then 1 else 0), .int (namedBy ms L m)]] by rw [List.map_map, zipT_map, List.zip_eq_zipWith]; simp [List.zipWith_self, keyT, kV, Function.comp_def]]
  refine ⟨by have := hg.le; simp at *; omega, dc_map (fun m => T.tup [.str m, T.tup [.int ((L m).length + if m = f then 1 else 0), .int (namedBy ms L m)]]) Sum.inr (fun m => (false, .int (surp ms f L m))) ms (fun c hc Kb hk => ?_) (nodup_inr hg.nd) ?_⟩
  · repeat (first | refine ⟨_, rfl, rfl, List.nodup_nil, ?_⟩ | refine ⟨_, rfl, Nat.le_of_ble_eq_true rfl, ?_⟩ | refine ⟨_, rfl, ?_⟩ | refine ⟨_, _, rfl, rfl, ?_⟩ | refine ⟨_, _, _, rfl, rfl, by decide +kernel, ?_⟩ | refine Or.inl ⟨_, rfl, ?_⟩ | refine Or.inr ⟨_, rfl, ?_⟩ | refine Or.inl ⟨_, _, rfl, rfl, ?_⟩ | refine ⟨_, _, rfl, ?_⟩ | refine ⟨rfl, ?_⟩ | refine ⟨⟨_, rfl⟩, ?_⟩ | refine Or.inl ⟨_, _, _, rfl, rfl, rfl, ?_⟩ | refine ⟨_, _, _, rfl, rfl, ?_⟩)
    exact hk
  · exact qo2 (q true) (by simp [dmap, Function.comp_def, okO, bagT, T.isAv])
end
end Q
end

section
/-! plain numbers: arrangements of a bag -/
namespace Q
open PySem L2
def fac : Nat → Nat
  | 0 => 1
  | n + 1 => (n + 1) * fac n
theorem fac_pos : ∀ n, 0 < fac n
  | 0 => by decide
  | n + 1 => Nat.mul_pos (Nat.succ_pos n) (fac_pos n)
theorem fac_dvd : ∀ n a b, a + b = n → fac a * fac b ∣ fac n
  | 0, a, b, h => by
    have : a = 0 := by omega
    have : b = 0 := by omega
    subst a b
    exact ⟨1, rfl⟩
  | n + 1, 0, b, h => by
    have : b = n + 1 := by omega
    subst b
    exact ⟨1, by simp [fac]⟩
  | n + 1, a + 1, 0, h => by
    have : a + 1 = n + 1 := by omega
    rw [this]
    exact ⟨1, by simp [fac]⟩
  | n + 1, a + 1, b + 1, h => by
    have h1 := fac_dvd n a (b + 1) (by omega)
    have h2 := fac_dvd n (a + 1) b (by omega)
    have e : fac (n + 1) = (a + 1) * fac n + (b + 1) * fac n := by
      show (n + 1) * fac n = _
      rw [← Nat.add_mul]
      congr 1
      omega
    rw [e]
    refine Nat.dvd_add ?_ ?_
    · show (a + 1) * fac a * fac (b + 1) ∣ _
      rw [Nat.mul_assoc]
      exact Nat.mul_dvd_mul_left _ h1
    · show fac (a + 1) * ((b + 1) * fac b) ∣ _
      rw [Nat.mul_left_comm]
      exact Nat.mul_dvd_mul_left _ h2
theorem fac_mono : ∀ {a b : Nat}, a ≤ b → fac a ≤ fac b
  | a, 0, h => by
    have e : a = 0 := by omega
    rw [e]
    exact Nat.le_refl _
  | a, b + 1, h => by
    by_cases e : a = b + 1
    · subst e; exact Nat.le_refl _
    · exact Nat.le_trans (fac_mono (show a ≤ b by omega)) (Nat.le_mul_of_pos_left _ (Nat.succ_pos b))
def pf : List Nat → Nat
  | [] => 1
  | c :: cs => fac c * pf cs
theorem pf_pos : ∀ cs, 0 < pf cs
  | [] => by decide
  | c :: cs => Nat.mul_pos (fac_pos c) (pf_pos cs)
theorem pf_dvd : ∀ cs, pf cs ∣ fac cs.sum
  | [] => ⟨1, rfl⟩
  | c :: cs => by
    rw [List.sum_cons]
    exact Nat.dvd_trans (Nat.mul_dvd_mul_left _ (pf_dvd cs)) (fac_dvd _ c cs.sum rfl)
theorem pf_append : ∀ as bs, pf (as ++ bs) = pf as * pf bs
  | [], bs => by simp [pf]
  | a :: as, bs => by simp [pf, pf_append as bs, Nat.mul_assoc]
/-- how many arrangements -/
def multi (cs : List Nat) : Nat := fac cs.sum / pf cs
theorem multi_mul (cs : List Nat) : multi cs * pf cs = fac cs.sum := Nat.div_mul_cancel (pf_dvd cs)
/-- one more of the last kind -/
theorem multi_step (ps : List Nat) (p : Nat) : fac (ps.sum + p) / (pf ps * fac p) * (ps.sum + p + 1) / (p + 1) = fac (ps.sum + (p + 1)) / (pf ps * fac (p + 1)) := by
  have d : pf ps * fac p ∣ fac (ps.sum + p) := by
    have := pf_dvd (ps ++ [p])
    rw [pf_append] at this
    simpa [pf] using this
  rw [Nat.mul_comm, ← Nat.mul_div_assoc _ d, Nat.div_div_eq_div_mul]
  congr 1
  show _ = pf ps * ((p + 1) * fac p)
  rw [Nat.mul_comm (p + 1), Nat.mul_assoc]
theorem pf_set {ns : List Str} {c : Str → Nat} {o : Str} (nd : ns.Nodup) (ho : o ∈ ns) (k : Nat) : pf (ns.map fun n => if n = o then k else c n) * fac (c o) = pf (ns.map c) * fac k := by
  induction ns with
  | nil => simp at ho
  | cons a ns ih =>
    obtain ⟨h1, h2⟩ := List.nodup_cons.mp nd
    simp only [List.map_cons, pf]
    by_cases e : a = o
    · subst e
      have e1 : (ns.map fun n => if n = a then k else c n) = ns.map c := List.map_congr_left fun x hx => by
        have : x ≠ a := fun z => h1 (z ▸ hx)
        simp [this]
      rw [e1]
      simp only [if_true]
      rw [Nat.mul_right_comm, Nat.mul_comm (fac k), Nat.mul_right_comm]
    · have ho' : o ∈ ns := by
        rcases List.mem_cons.mp ho with z | z
        · exact absurd z.symm e
        · exact z
      rw [if_neg e, Nat.mul_assoc, ih h2 ho', Nat.mul_assoc]
theorem sum_set {ns : List Str} {c : Str → Nat} {o : Str} (nd : ns.Nodup) (ho : o ∈ ns) (k : Nat) : (ns.map fun n => if n = o then k else c n).sum + c o = (ns.map c).sum + k := by
  induction ns with
  | nil => simp at ho
  | cons a ns ih =>
    obtain ⟨h1, h2⟩ := List.nodup_cons.mp nd
    simp only [List.map_cons, List.sum_cons]
    by_cases e : a = o
    · subst e
      have e1 : (ns.map fun n => if n = a then k else c n) = ns.map c := List.map_congr_left fun x hx => by
        have : x ≠ a := fun z => h1 (z ▸ hx)
        simp [this]
      rw [e1]
      simp only [if_true]
      omega
    · have ho' : o ∈ ns := by
        rcases List.mem_cons.mp ho with z | z
        · exact absurd z.symm e
        · exact z
      rw [if_neg e]
      have := ih h2 ho'
      omega
/-- one taken out -/
def dec (c : Str → Nat) (o : Str) : Str → Nat := fun n => if n = o then c n - 1 else c n
def M (ns : List Str) (c : Str → Nat) : Nat := multi (ns.map c)
def tot (ns : List Str) (c : Str → Nat) : Nat := (ns.map c).sum
theorem dec_eq (c : Str → Nat) (o : Str) : dec c o = fun n => if n = o then c o - 1 else c n := by
  funext n
  unfold dec
  by_cases h : n = o
  · subst h; rfl
  · simp [h]
theorem tot_dec {ns : List Str} {c : Str → Nat} {o : Str} (nd : ns.Nodup) (ho : o ∈ ns) (h : 0 < c o) : tot ns (dec c o) + 1 = tot ns c := by
  have := sum_set (c := c) nd ho (c o - 1)
  unfold tot
  rw [dec_eq]
  omega
theorem le_tot {ns : List Str} {c : Str → Nat} {o : Str} (ho : o ∈ ns) : c o ≤ tot ns c := by
  unfold tot
  induction ns with
  | nil => simp at ho
  | cons a ns ih =>
    simp only [List.map_cons, List.sum_cons]
    rcases List.mem_cons.mp ho with z | z
    · subst z; omega
    · have := ih z; omega
theorem M_dec {ns : List Str} {c : Str → Nat} {o : Str} (nd : ns.Nodup) (ho : o ∈ ns) (h : 0 < c o) : M ns (dec c o) * pf (ns.map c) = fac (tot ns c - 1) * c o := by
  have h1 := multi_mul (ns.map (dec c o))
  have h2 : tot ns (dec c o) = tot ns c - 1 := by have := tot_dec nd ho h; omega
  have h3 := pf_set (c := c) nd ho (c o - 1)
  obtain ⟨k, hk⟩ : ∃ k, c o = k + 1 := ⟨c o - 1, by omega⟩
  have h4 : pf (ns.map (dec c o)) * c o = pf (ns.map c) := by
    rw [dec_eq]
    rw [hk] at h3 ⊢
    simp only [Nat.add_sub_cancel] at h3 ⊢
    have h5 : fac (k + 1) = (k + 1) * fac k := rfl
    rw [h5, ← Nat.mul_assoc] at h3
    exact Nat.eq_of_mul_eq_mul_right (fac_pos k) h3
  rw [← h4, ← Nat.mul_assoc]
  show multi _ * _ * _ = _
  rw [h1]
  show fac (tot ns (dec c o)) * _ = _
  rw [h2]
/-- all by their first -/
theorem M_rec {ns : List Str} {c : Str → Nat} (nd : ns.Nodup) (h : 0 < tot ns c) : ((ns.filter fun o => decide (0 < c o)).map fun o => M ns (dec c o)).sum = M ns c := by
  have key : ∀ l : List Str, (∀ o ∈ l, o ∈ ns) → ((l.filter fun o => decide (0 < c o)).map fun o => M ns (dec c o)).sum * pf (ns.map c) = fac (tot ns c - 1) * (l.map c).sum := by
    intro l
    induction l with
    | nil => intro _; simp
    | cons a l ih =>
      intro hl
      have ih := ih fun o ho => hl o (List.mem_cons_of_mem _ ho)
      by_cases e : 0 < c a
      · rw [List.filter_cons_of_pos (by simpa using e)]
        simp only [List.map_cons, List.sum_cons]
        rw [Nat.add_mul, ih, M_dec nd (hl a List.mem_cons_self) e, Nat.mul_add]
      · rw [List.filter_cons_of_neg (by simpa using e)]
        have : c a = 0 := by omega
        simp only [List.map_cons, List.sum_cons, this, Nat.zero_add]
        exact ih
  have k := key ns fun _ h => h
  refine Nat.eq_of_mul_eq_mul_right (pf_pos (ns.map c)) (k.trans ?_)
  show _ = multi (ns.map c) * _
  rw [multi_mul]
  obtain ⟨m, hm⟩ : ∃ m, tot ns c = m + 1 := ⟨tot ns c - 1, by omega⟩
  show fac (tot ns c - 1) * tot ns c = fac (tot ns c)
  rw [hm]
  show fac m * (m + 1) = (m + 1) * fac m
  exact Nat.mul_comm _ _
theorem M_pos (ns : List Str) (c : Str → Nat) : 0 < M ns c := by
  have := multi_mul (ns.map c)
  refine Nat.pos_of_ne_zero fun e => ?_
  have h := fac_pos (ns.map c).sum
  rw [← this] at h
  show False
  have e' : multi (ns.map c) = 0 := e
  rw [e'] at h
  omega
theorem M_le (ns : List Str) (c : Str → Nat) : M ns c ≤ fac (tot ns c) := Nat.div_le_self _ _
theorem log_fac {n m : Nat} (h : n ≤ 64) (hm : m ≤ fac n) : m.log2 < 300 := by
  have h1 : m ≤ fac 64 := Nat.le_trans hm (fac_mono h)
  have h2 : fac 64 < 2 ^ 300 := by decide +kernel
  by_cases e : m = 0
  · subst e; decide
  · exact (Nat.log2_lt e).mpr (Nat.lt_of_le_of_lt h1 h2)
theorem log_small {n : Nat} (h : n ≤ 64) : n.log2 < 300 := by
  by_cases e : n = 0
  · subst e; decide
  · exact (Nat.log2_lt e).mpr (Nat.lt_of_le_of_lt h (by decide +kernel))
theorem mulW {i j : Int} (a b : Nat) (hi : i = a) (hj : j = b) (ha : a.log2 < 300) (hb : b.log2 < 300) : CMulW i j := by
  subst hi hj
  unfold CMulW
  simp only [Int.natAbs_natCast]
  omega
theorem divW {i j : Int} (b : Nat) (hj : j = b) (h0 : 0 < b) (hb : b.log2 < 300) : CDivW i j := by
  subst hj
  unfold CDivW
  simp only [Int.natAbs_natCast]
  omega
end Q
end

section
set_option maxRecDepth 100000
namespace Q
open PySem L2
section
variable {P : Program} {w : World} {K : PySem.W.Frag} {mg : Str → Option Value} {base : Heap}
/-- the first givers of those but the first who have a list -/
def k_starts_of : CT := fun us Q => ∃ ms f L, us = [strsT ms, .str f, listsT ms L] ∧ LsOk ms L ∧ f ∈ ms ∧ ∀ fl, Q (fl, dmap (ms.filter fun m => decide (m ≠ f) && decide (L m ≠ [])) fun m => .str ((L m).headD ""))
theorem ok_starts_of {f : Addr} {fd : FuncData} {C_Lost : Addr} (B : Blt mg) (TX : Txt K mg C_Lost)  (F : Fun K "starts_of" "starts_of" s_starts_of f fd) : FnOk P w K mg base CX0 1 f fd ["members", "first", "lists"] (spOf K 3 (rc k_starts_of)) := by
  refine fn_r (k := 0) F sc_starts_of rfl fun cdv A outer s H E hr => ⟨_, (qss_one (qs_ret (q_dc (own := [("member", 3)]) rfl sc_starts_of.nd (qi_list (qe_var (pv 0))) (blkOk_by (N := N_starts_of) (sc := defScope s_starts_of) (by decide +kernel)) (fun _ _ _ _ _ => (gq_name (pg_name (i := 3) sc_starts_of.nd rfl (by first | exact Or.inl rfl | exact Or.inr rfl)))) (fun _ _ _ _ _ => (qts_one (QW.qt (qw_and (qt_cmp (qc_ne (Room.hu hr)) (qe_var (pv 3)) (qe_var (pv 1)) (by rfl)) (qw_and1 (qt_cmp (qc_ne (Room.hu hr)) (q_dget (Room.hu1 hr) (qe_var (pv 2)) (qe_var (pv 3)) (fun _ _ => rfl)) (q_lstO qa_nil) (by rfl))))))) (fun _ _ _ _ _ => (qe_var (pv 3))) (fun _ _ _ _ _ => (q_ix (q_dget (Room.hu1 hr) (qe_var (pv 2)) (qe_var (pv 3)) (fun _ _ => rfl)) (qe_c pe_int)))))), ?_⟩
  -- names: 0 members, 1 first, 2 lists, 3 member
  rintro us Q hl ⟨ms, f, L, rfl, hg, hf, q⟩
  repeat (first | refine ⟨_, rfl, rfl, List.nodup_nil, ?_⟩ | refine ⟨_, rfl, Nat.le_of_ble_eq_true rfl, ?_⟩ | refine ⟨_, rfl, ?_⟩ | refine ⟨_, _, rfl, rfl, ?_⟩ | refine ⟨_, _, _, rfl, rfl, by decide +kernel, ?_⟩ | refine Or.inl ⟨_, rfl, ?_⟩ | refine Or.inr ⟨_, rfl, ?_⟩ | refine Or.inl ⟨_, _, rfl, rfl, ?_⟩ | refine ⟨_, _, rfl, ?_⟩ | refine ⟨rfl, ?_⟩ | refine ⟨⟨_, rfl⟩, ?_⟩ | refine Or.inl ⟨_, _, _, rfl, rfl, rfl, ?_⟩ | refine ⟨_, _, _, rfl, rfl, ?_⟩)
  refine ⟨by have := hg.le; simp at *; omega, dc_flt T.str (fun m => decide (m ≠ f) && decide (L m ≠ [])) Sum.inr (fun m => (false, .str ((L m).headD ""))) ms (fun c hc Kb k1 k2 => ?_) ?_ ?_⟩
  · repeat (first | refine ⟨_, rfl, rfl, List.nodup_nil, ?_⟩ | refine ⟨_, rfl, Nat.le_of_ble_eq_true rfl, ?_⟩ | refine ⟨_, rfl, ?_⟩ | refine ⟨_, _, rfl, rfl, ?_⟩ | refine ⟨_, _, _, rfl, rfl, by decide +kernel, ?_⟩ | refine Or.inl ⟨_, rfl, ?_⟩ | refine Or.inr ⟨_, rfl, ?_⟩ | refine Or.inl ⟨_, _, rfl, rfl, ?_⟩ | refine ⟨_, _, rfl, ?_⟩ | refine ⟨rfl, ?_⟩ | refine ⟨⟨_, rfl⟩, ?_⟩ | refine Or.inl ⟨_, _, _, rfl, rfl, rfl, ?_⟩ | refine ⟨_, _, _, rfl, rfl, ?_⟩)
    refine ⟨_, teq_str (hg.good c hc).ok (hg.good f hf).ok, ?_⟩
    repeat (first | refine ⟨_, rfl, rfl, List.nodup_nil, ?_⟩ | refine ⟨_, rfl, Nat.le_of_ble_eq_true rfl, ?_⟩ | refine ⟨_, rfl, ?_⟩ | refine ⟨_, _, rfl, rfl, ?_⟩ | refine ⟨_, _, _, rfl, rfl, by decide +kernel, ?_⟩ | refine Or.inl ⟨_, rfl, ?_⟩ | refine Or.inr ⟨_, rfl, ?_⟩ | refine Or.inl ⟨_, _, rfl, rfl, ?_⟩ | refine ⟨_, _, rfl, ?_⟩ | refine ⟨rfl, ?_⟩ | refine ⟨⟨_, rfl⟩, ?_⟩ | refine Or.inl ⟨_, _, _, rfl, rfl, rfl, ?_⟩ | refine ⟨_, _, _, rfl, rfl, ?_⟩)
    by_cases h1 : c = f
    · refine iteFq (by simp [h1]) ?_
      exact k2 (by simp [h1])
    refine iteTq (by simp [h1]) ?_
    repeat (first | refine ⟨_, rfl, rfl, List.nodup_nil, ?_⟩ | refine ⟨_, rfl, Nat.le_of_ble_eq_true rfl, ?_⟩ | refine ⟨_, rfl, ?_⟩ | refine ⟨_, _, rfl, rfl, ?_⟩ | refine ⟨_, _, _, rfl, rfl, by decide +kernel, ?_⟩ | refine Or.inl ⟨_, rfl, ?_⟩ | refine Or.inr ⟨_, rfl, ?_⟩ | refine Or.inl ⟨_, _, rfl, rfl, ?_⟩ | refine ⟨_, _, rfl, ?_⟩ | refine ⟨rfl, ?_⟩ | refine ⟨⟨_, rfl⟩, ?_⟩ | refine Or.inl ⟨_, _, _, rfl, rfl, rfl, ?_⟩ | refine ⟨_, _, _, rfl, rfl, ?_⟩)
    refine ⟨_, _, _, _, rfl, rfl, by rw [dget_map, if_pos hc], ?_⟩
    repeat (first | refine ⟨_, rfl, rfl, List.nodup_nil, ?_⟩ | refine ⟨_, rfl, Nat.le_of_ble_eq_true rfl, ?_⟩ | refine ⟨_, rfl, ?_⟩ | refine ⟨_, _, rfl, rfl, ?_⟩ | refine ⟨_, _, _, rfl, rfl, by decide +kernel, ?_⟩ | refine Or.inl ⟨_, rfl, ?_⟩ | refine Or.inr ⟨_, rfl, ?_⟩ | refine Or.inl ⟨_, _, rfl, rfl, ?_⟩ | refine ⟨_, _, rfl, ?_⟩ | refine ⟨rfl, ?_⟩ | refine ⟨⟨_, rfl⟩, ?_⟩ | refine Or.inl ⟨_, _, _, rfl, rfl, rfl, ?_⟩ | refine ⟨_, _, _, rfl, rfl, ?_⟩)
    refine ⟨_, teq_strs (ys := []) (fun x hx => (hg.good x (hg.giv c hc x hx).1).ok) (by simp), ?_⟩
    repeat (first | refine ⟨_, rfl, rfl, List.nodup_nil, ?_⟩ | refine ⟨_, rfl, Nat.le_of_ble_eq_true rfl, ?_⟩ | refine ⟨_, rfl, ?_⟩ | refine ⟨_, _, rfl, rfl, ?_⟩ | refine ⟨_, _, _, rfl, rfl, by decide +kernel, ?_⟩ | refine Or.inl ⟨_, rfl, ?_⟩ | refine Or.inr ⟨_, rfl, ?_⟩ | refine Or.inl ⟨_, _, rfl, rfl, ?_⟩ | refine ⟨_, _, rfl, ?_⟩ | refine ⟨rfl, ?_⟩ | refine ⟨⟨_, rfl⟩, ?_⟩ | refine Or.inl ⟨_, _, _, rfl, rfl, rfl, ?_⟩ | refine ⟨_, _, _, rfl, rfl, ?_⟩)
    by_cases h2 : L c = []
    · refine iteFq (by simp [h2]) ?_
      exact k2 (by simp [h2])
    refine iteTq (by simp [h2]) ?_
    repeat (first | refine ⟨_, rfl, rfl, List.nodup_nil, ?_⟩ | refine ⟨_, rfl, Nat.le_of_ble_eq_true rfl, ?_⟩ | refine ⟨_, rfl, ?_⟩ | refine ⟨_, _, rfl, rfl, ?_⟩ | refine ⟨_, _, _, rfl, rfl, by decide +kernel, ?_⟩ | refine Or.inl ⟨_, rfl, ?_⟩ | refine Or.inr ⟨_, rfl, ?_⟩ | refine Or.inl ⟨_, _, rfl, rfl, ?_⟩ | refine ⟨_, _, rfl, ?_⟩ | refine ⟨rfl, ?_⟩ | refine ⟨⟨_, rfl⟩, ?_⟩ | refine Or.inl ⟨_, _, _, rfl, rfl, rfl, ?_⟩ | refine ⟨_, _, _, rfl, rfl, ?_⟩)
    refine ⟨_, _, _, _, rfl, rfl, by rw [dget_map, if_pos hc], ?_⟩
    refine Or.inl ⟨_, _, .str ((L c).headD ""), rfl, rfl, ?h, ?_⟩
    case h =>
      show atI ((L c).map T.str) ((0 : Nat) : Int) = some (.str ((L c).headD ""))
      refine atI_nat ?_
      cases e : L c with
      | nil => exact absurd e h2
      | cons a l => rfl
    exact ⟨_, rfl, k1 (by simp [h1, h2])⟩
  · exact nodup_inr (hg.nd.filter _)
  · exact qo2 (q true) (by simp [dmap, Function.comp_def, okO, T.isAv])
/-- in k43 all lead to one who has no list: no ring -/
def k_ring_at : CT := fun us Q => ∃ ns x m, us = [dmap ns fun _ => .str x, .str m] ∧ x ∉ ns ∧ m ∈ ns ∧ (∀ y ∈ ns, goodN y) ∧ goodN x ∧ ns.length ≤ 12 ∧ Q (false, .non)
theorem ok_ring_at {f : Addr} {fd : FuncData} {C_Lost : Addr} (B : Blt mg) (TX : Txt K mg C_Lost)  (F : Fun K "ring_at" "ring_at" s_ring_at f fd) : FnOk P w K mg base CX0 1 f fd ["starts", "member"] (spOf K 2 (rc k_ring_at)) := by
  refine fn_r (k := 0) F sc_ring_at rfl fun cdv A outer s H E hr => ⟨_, (qss_cons (qs_set (ps_set (i := 2) sc_ring_at.nd rfl (by first | exact Or.inl rfl | exact Or.inr rfl) (q_lstO (qa_cons (qe_var (pv 1)) qa_nil))) (hp := by decide))
      (qss_cons (qs_while PassesOwn.never (qt_quiet (QW.qt (qw_and (qt_din (Room.hu1 hr) (q_ix (qe_var (pv 2)) (q_neg (qe_c pe_int))) (qe_var (pv 0))) (qw_and1 (qt_cmp qc_le (q_len rfl B.len (qa_cons (qe_var (pv 2)) qa_nil)) (q_len rfl B.len (qa_cons (qe_var (pv 0)) qa_nil)) (by rfl)))))) (qss_cons (qs_setF (ps_set (i := 3) sc_ring_at.nd rfl (by first | exact Or.inl rfl | exact Or.inr rfl) (q_quiet (q_dget (Room.hu1 hr) (qe_var (pv 0)) (q_ix (qe_var (pv 2)) (q_neg (qe_c pe_int))) (fun _ _ => rfl)))) (hp := by decide))
      (qss_cons (qs_if (qt_cmp (qc_eq (Room.hu hr)) (qe_var (pv 3)) (qe_var (pv 1)) (by rfl)) (qss_one (qs_ret (qe_share (pv 2)))) qss_nil)
      (qss_one (qs_expr (q_lop PySem.F.slot_list_append PySem.F.type_list_append mt_append lop_append (qp_slot (pv 2)) (qa_cons (qe_var (pv 3)) qa_nil)))))))
      (qss_one (qs_ret (qe_c pe_non))))), ?_⟩
  -- names: 0 starts, 1 member, 2 found, 3 giver
  rintro us Q hl ⟨ns, x, m, rfl, hx, hm, hg, hgx, hn, q⟩
  repeat (first | refine ⟨_, rfl, rfl, List.nodup_nil, ?_⟩ | refine ⟨_, rfl, Nat.le_of_ble_eq_true rfl, ?_⟩ | refine ⟨_, rfl, ?_⟩ | refine ⟨_, _, rfl, rfl, ?_⟩ | refine ⟨_, _, _, rfl, rfl, by decide +kernel, ?_⟩ | refine Or.inl ⟨_, rfl, ?_⟩ | refine Or.inr ⟨_, rfl, ?_⟩ | refine Or.inl ⟨_, _, rfl, rfl, ?_⟩ | refine ⟨_, _, rfl, ?_⟩ | refine ⟨rfl, ?_⟩ | refine ⟨⟨_, rfl⟩, ?_⟩ | refine Or.inl ⟨_, _, _, rfl, rfl, rfl, ?_⟩ | refine ⟨_, _, _, rfl, rfl, ?_⟩)
  refine ⟨fun k e => (k = 1 ∧ e = [some (false, dmap ns fun _ => .str x), some (false, .str m), some (true, .lst [.str m]), none]) ∨ (k = 0 ∧ e = [some (false, dmap ns fun _ => .str x), some (false, .str m), some (true, .lst [.str m, .str x]), some (false, .str x)]), ⟨1, .inl ⟨rfl, rfl⟩⟩, ?_⟩
  rintro k e (⟨rfl, rfl⟩ | ⟨rfl, rfl⟩)
  · repeat (first | refine ⟨_, rfl, rfl, List.nodup_nil, ?_⟩ | refine ⟨_, rfl, Nat.le_of_ble_eq_true rfl, ?_⟩ | refine ⟨_, rfl, ?_⟩ | refine ⟨_, _, rfl, rfl, ?_⟩ | refine ⟨_, _, _, rfl, rfl, by decide +kernel, ?_⟩ | refine Or.inl ⟨_, rfl, ?_⟩ | refine Or.inr ⟨_, rfl, ?_⟩ | refine Or.inl ⟨_, _, rfl, rfl, ?_⟩ | refine ⟨_, _, rfl, ?_⟩ | refine ⟨rfl, ?_⟩ | refine ⟨⟨_, rfl⟩, ?_⟩ | refine Or.inl ⟨_, _, _, rfl, rfl, rfl, ?_⟩ | refine ⟨_, _, _, rfl, rfl, ?_⟩)
    refine iteTq (by simp [dget_map, hm]) ?_
    repeat (first | refine ⟨_, rfl, rfl, List.nodup_nil, ?_⟩ | refine ⟨_, rfl, Nat.le_of_ble_eq_true rfl, ?_⟩ | refine ⟨_, rfl, ?_⟩ | refine ⟨_, _, rfl, rfl, ?_⟩ | refine ⟨_, _, _, rfl, rfl, by decide +kernel, ?_⟩ | refine Or.inl ⟨_, rfl, ?_⟩ | refine Or.inr ⟨_, rfl, ?_⟩ | refine Or.inl ⟨_, _, rfl, rfl, ?_⟩ | refine ⟨_, _, rfl, ?_⟩ | refine ⟨rfl, ?_⟩ | refine ⟨⟨_, rfl⟩, ?_⟩ | refine Or.inl ⟨_, _, _, rfl, rfl, rfl, ?_⟩ | refine ⟨_, _, _, rfl, rfl, ?_⟩)
    refine iteTq (decide_eq_true (by have := List.length_pos_of_mem hm; simp; omega)) ?_
    repeat (first | refine ⟨_, rfl, rfl, List.nodup_nil, ?_⟩ | refine ⟨_, rfl, Nat.le_of_ble_eq_true rfl, ?_⟩ | refine ⟨_, rfl, ?_⟩ | refine ⟨_, _, rfl, rfl, ?_⟩ | refine ⟨_, _, _, rfl, rfl, by decide +kernel, ?_⟩ | refine Or.inl ⟨_, rfl, ?_⟩ | refine Or.inr ⟨_, rfl, ?_⟩ | refine Or.inl ⟨_, _, rfl, rfl, ?_⟩ | refine ⟨_, _, rfl, ?_⟩ | refine ⟨rfl, ?_⟩ | refine ⟨⟨_, rfl⟩, ?_⟩ | refine Or.inl ⟨_, _, _, rfl, rfl, rfl, ?_⟩ | refine ⟨_, _, _, rfl, rfl, ?_⟩)
    refine ⟨_, _, _, .str x, rfl, rfl, by rw [dget_map, if_pos hm], rfl, ?_⟩
    repeat (first | refine ⟨_, rfl, rfl, List.nodup_nil, ?_⟩ | refine ⟨_, rfl, Nat.le_of_ble_eq_true rfl, ?_⟩ | refine ⟨_, rfl, ?_⟩ | refine ⟨_, _, rfl, rfl, ?_⟩ | refine ⟨_, _, _, rfl, rfl, by decide +kernel, ?_⟩ | refine Or.inl ⟨_, rfl, ?_⟩ | refine Or.inr ⟨_, rfl, ?_⟩ | refine Or.inl ⟨_, _, rfl, rfl, ?_⟩ | refine ⟨_, _, rfl, ?_⟩ | refine ⟨rfl, ?_⟩ | refine ⟨⟨_, rfl⟩, ?_⟩ | refine Or.inl ⟨_, _, _, rfl, rfl, rfl, ?_⟩ | refine ⟨_, _, _, rfl, rfl, ?_⟩)
    refine ⟨_, teq_str hgx.ok (hg m hm).ok, ?_⟩
    have h1 : ¬ x = m := fun e => hx (e ▸ hm)
    repeat (first | refine ⟨_, rfl, rfl, List.nodup_nil, ?_⟩ | refine ⟨_, rfl, Nat.le_of_ble_eq_true rfl, ?_⟩ | refine ⟨_, rfl, ?_⟩ | refine ⟨_, _, rfl, rfl, ?_⟩ | refine ⟨_, _, _, rfl, rfl, by decide +kernel, ?_⟩ | refine Or.inl ⟨_, rfl, ?_⟩ | refine Or.inr ⟨_, rfl, ?_⟩ | refine Or.inl ⟨_, _, rfl, rfl, ?_⟩ | refine ⟨_, _, rfl, ?_⟩ | refine ⟨rfl, ?_⟩ | refine ⟨⟨_, rfl⟩, ?_⟩ | refine Or.inl ⟨_, _, _, rfl, rfl, rfl, ?_⟩ | refine ⟨_, _, _, rfl, rfl, ?_⟩)
    refine iteFq (by simp [h1]) ?_
    repeat (first | refine ⟨_, rfl, rfl, List.nodup_nil, ?_⟩ | refine ⟨_, rfl, Nat.le_of_ble_eq_true rfl, ?_⟩ | refine ⟨_, rfl, ?_⟩ | refine ⟨_, _, rfl, rfl, ?_⟩ | refine ⟨_, _, _, rfl, rfl, by decide +kernel, ?_⟩ | refine Or.inl ⟨_, rfl, ?_⟩ | refine Or.inr ⟨_, rfl, ?_⟩ | refine Or.inl ⟨_, _, rfl, rfl, ?_⟩ | refine ⟨_, _, rfl, ?_⟩ | refine ⟨rfl, ?_⟩ | refine ⟨⟨_, rfl⟩, ?_⟩ | refine Or.inl ⟨_, _, _, rfl, rfl, rfl, ?_⟩ | refine ⟨_, _, _, rfl, rfl, ?_⟩)
    exact ⟨0, by decide, .inr ⟨rfl, rfl⟩⟩
  · repeat (first | refine ⟨_, rfl, rfl, List.nodup_nil, ?_⟩ | refine ⟨_, rfl, Nat.le_of_ble_eq_true rfl, ?_⟩ | refine ⟨_, rfl, ?_⟩ | refine ⟨_, _, rfl, rfl, ?_⟩ | refine ⟨_, _, _, rfl, rfl, by decide +kernel, ?_⟩ | refine Or.inl ⟨_, rfl, ?_⟩ | refine Or.inr ⟨_, rfl, ?_⟩ | refine Or.inl ⟨_, _, rfl, rfl, ?_⟩ | refine ⟨_, _, rfl, ?_⟩ | refine ⟨rfl, ?_⟩ | refine ⟨⟨_, rfl⟩, ?_⟩ | refine Or.inl ⟨_, _, _, rfl, rfl, rfl, ?_⟩ | refine ⟨_, _, _, rfl, rfl, ?_⟩)
    refine iteFq (by simp [dget_map, hx]) ?_
    exact q
def k_least_ring : CT := fun us Q => ∃ ns x, us = [dmap ns fun _ => .str x] ∧ x ∉ ns ∧ (∀ y ∈ ns, goodN y) ∧ goodN x ∧ ns.length ≤ 12 ∧ Q (false, .non)
theorem ok_least_ring {f : Addr} {fd : FuncData} {C_Lost : Addr} (B : Blt mg) (TX : Txt K mg C_Lost) (G_ring_at : Callee P w K mg base "ring_at" 1 2 (rc k_ring_at)) (F : Fun K "least_ring" "least_ring" s_least_ring f fd) : FnOk P w K mg base CX0 2 f fd ["starts"] (spOf K 1 (rc k_least_ring)) := by
  refine fn_r (k := 1) F sc_least_ring rfl fun cdv A outer s H E hr => ⟨_, (qss_cons (qs_for PassesOwn.never rfl (qi_list (q_sorted rfl rfl B.sorted (qa_cons (qe_var (pv 0)) qa_nil))) (gq_name (pg_name (i := 1) sc_least_ring.nd rfl (by first | exact Or.inl rfl | exact Or.inr rfl))) (qss_cons (qs_setF (ps_set (i := 2) sc_least_ring.nd rfl (by first | exact Or.inl rfl | exact Or.inr rfl) (q_callC G_ring_at hr (by decide) rfl (qa_cons (qe_var (pv 0)) (qa_cons (qe_var (pv 1)) qa_nil)))) (hp := by decide))
      (qss_one (qs_if (qt_cmp qc_notN (qe_var (pv 2)) (qe_c pe_non) (by rfl)) (qss_one (qs_ret (qe_var (pv 2)))) qss_nil))) (hpn := by decide))
      (qss_one (qs_ret (qe_c pe_non)))), ?_⟩
  -- names: 0 starts, 1 member, 2 ring
  rintro us Q hl ⟨ns, x, rfl, hx, hg, hgx, hn, q⟩
  refine ⟨_, rfl, _, rfl, ns, .inr ⟨_, rfl⟩, by omega, fun ys hp hs => ?_⟩
  repeat (first | refine ⟨_, rfl, rfl, List.nodup_nil, ?_⟩ | refine ⟨_, rfl, Nat.le_of_ble_eq_true rfl, ?_⟩ | refine ⟨_, rfl, ?_⟩ | refine ⟨_, _, rfl, rfl, ?_⟩ | refine ⟨_, _, _, rfl, rfl, by decide +kernel, ?_⟩ | refine Or.inl ⟨_, rfl, ?_⟩ | refine Or.inr ⟨_, rfl, ?_⟩ | refine Or.inl ⟨_, _, rfl, rfl, ?_⟩ | refine ⟨_, _, rfl, ?_⟩ | refine ⟨rfl, ?_⟩ | refine ⟨⟨_, rfl⟩, ?_⟩ | refine Or.inl ⟨_, _, _, rfl, rfl, rfl, ?_⟩ | refine ⟨_, _, _, rfl, rfl, ?_⟩)
  refine for_rec T.str (fun xs e => (∀ y ∈ xs, y ∈ ns) ∧ ∃ o1 o2, e = [some (false, dmap ns fun _ => .str x), o1, o2]) ?_ ?_ ys _ ⟨fun y hy => hp.mem_iff.mp hy, _, _, rfl⟩
  · rintro e ⟨_, o1, o2, rfl⟩
    exact q
  · rintro y xs e N ⟨hy, o1, o2, rfl⟩ hN
    repeat (first | refine ⟨_, rfl, rfl, List.nodup_nil, ?_⟩ | refine ⟨_, rfl, Nat.le_of_ble_eq_true rfl, ?_⟩ | refine ⟨_, rfl, ?_⟩ | refine ⟨_, _, rfl, rfl, ?_⟩ | refine ⟨_, _, _, rfl, rfl, by decide +kernel, ?_⟩ | refine Or.inl ⟨_, rfl, ?_⟩ | refine Or.inr ⟨_, rfl, ?_⟩ | refine Or.inl ⟨_, _, rfl, rfl, ?_⟩ | refine ⟨_, _, rfl, ?_⟩ | refine ⟨rfl, ?_⟩ | refine ⟨⟨_, rfl⟩, ?_⟩ | refine Or.inl ⟨_, _, _, rfl, rfl, rfl, ?_⟩ | refine ⟨_, _, _, rfl, rfl, ?_⟩)
    refine ⟨_, _, y, rfl, hx, hy y List.mem_cons_self, hg, hgx, hn, ?_⟩
    repeat (first | refine ⟨_, rfl, rfl, List.nodup_nil, ?_⟩ | refine ⟨_, rfl, Nat.le_of_ble_eq_true rfl, ?_⟩ | refine ⟨_, rfl, ?_⟩ | refine ⟨_, _, rfl, rfl, ?_⟩ | refine ⟨_, _, _, rfl, rfl, by decide +kernel, ?_⟩ | refine Or.inl ⟨_, rfl, ?_⟩ | refine Or.inr ⟨_, rfl, ?_⟩ | refine Or.inl ⟨_, _, rfl, rfl, ?_⟩ | refine ⟨_, _, rfl, ?_⟩ | refine ⟨rfl, ?_⟩ | refine ⟨⟨_, rfl⟩, ?_⟩ | refine Or.inl ⟨_, _, _, rfl, rfl, rfl, ?_⟩ | refine ⟨_, _, _, rfl, rfl, ?_⟩)
    exact hN _ ⟨fun z hz => hy z (List.mem_cons_of_mem _ hz), _, _, rfl⟩
def k_need_lost : CT := fun us Q => ∃ ms f L m, us = [strsT ms, .str f, listsT ms L, .str m] ∧ LsOk ms L ∧ f ∈ ms ∧ m ∈ ms ∧ L m = [] ∧ Q (false, .non)
theorem ok_need_lost {f : Addr} {fd : FuncData} {C_Lost : Addr} (B : Blt mg) (TX : Txt K mg C_Lost) (G_need_lists : Callee P w K mg base "need_lists" 4 3 (rc k_need_lists)) (G_need_member : Callee P w K mg base "need_member" 2 2 (rc k_need_member)) (F : Fun K "need_lost" "need_lost" s_need_lost f fd) : FnOk P w K mg base CX0 5 f fd ["members", "first", "lists", "member"] (spOf K 4 (rc k_need_lost)) := by
  refine fn_r (k := 4) F sc_need_lost rfl fun cdv A outer s H E hr => ⟨_, (qss_cons (qs_expr (q_callC G_need_lists hr (by decide) rfl (qa_cons (qe_var (pv 0)) (qa_cons (qe_var (pv 1)) (qa_cons (qe_var (pv 2)) qa_nil)))))
      (qss_cons (qs_expr (q_callC G_need_member hr (by decide) rfl (qa_cons (qe_var (pv 0)) (qa_cons (qe_var (pv 3)) qa_nil))))
      (qss_one (qs_if (qt_cmp (qc_ne (Room.hu hr)) (q_dget (Room.hu1 hr) (qe_var (pv 2)) (qe_var (pv 3)) (fun _ _ => rfl)) (q_lstO qa_nil) (by rfl)) (qss_one qs_never) qss_nil)))), ?_⟩
  -- names: 0 members, 1 first, 2 lists, 3 member
  rintro us Q hl ⟨ms, f, L, m, rfl, hg, hf, hm, h0, q⟩
  repeat (first | refine ⟨_, rfl, rfl, List.nodup_nil, ?_⟩ | refine ⟨_, rfl, Nat.le_of_ble_eq_true rfl, ?_⟩ | refine ⟨_, rfl, ?_⟩ | refine ⟨_, _, rfl, rfl, ?_⟩ | refine ⟨_, _, _, rfl, rfl, by decide +kernel, ?_⟩ | refine Or.inl ⟨_, rfl, ?_⟩ | refine Or.inr ⟨_, rfl, ?_⟩ | refine Or.inl ⟨_, _, rfl, rfl, ?_⟩ | refine ⟨_, _, rfl, ?_⟩ | refine ⟨rfl, ?_⟩ | refine ⟨⟨_, rfl⟩, ?_⟩ | refine Or.inl ⟨_, _, _, rfl, rfl, rfl, ?_⟩ | refine ⟨_, _, _, rfl, rfl, ?_⟩)
  refine ⟨_, _, _, rfl, hg, hf, ?_⟩
  repeat (first | refine ⟨_, rfl, rfl, List.nodup_nil, ?_⟩ | refine ⟨_, rfl, Nat.le_of_ble_eq_true rfl, ?_⟩ | refine ⟨_, rfl, ?_⟩ | refine ⟨_, _, rfl, rfl, ?_⟩ | refine ⟨_, _, _, rfl, rfl, by decide +kernel, ?_⟩ | refine Or.inl ⟨_, rfl, ?_⟩ | refine Or.inr ⟨_, rfl, ?_⟩ | refine Or.inl ⟨_, _, rfl, rfl, ?_⟩ | refine ⟨_, _, rfl, ?_⟩ | refine ⟨rfl, ?_⟩ | refine ⟨⟨_, rfl⟩, ?_⟩ | refine Or.inl ⟨_, _, _, rfl, rfl, rfl, ?_⟩ | refine ⟨_, _, _, rfl, rfl, ?_⟩)
  refine ⟨hm, ?_⟩
  repeat (first | refine ⟨_, rfl, rfl, List.nodup_nil, ?_⟩ | refine ⟨_, rfl, Nat.le_of_ble_eq_true rfl, ?_⟩ | refine ⟨_, rfl, ?_⟩ | refine ⟨_, _, rfl, rfl, ?_⟩ | refine ⟨_, _, _, rfl, rfl, by decide +kernel, ?_⟩ | refine Or.inl ⟨_, rfl, ?_⟩ | refine Or.inr ⟨_, rfl, ?_⟩ | refine Or.inl ⟨_, _, rfl, rfl, ?_⟩ | refine ⟨_, _, rfl, ?_⟩ | refine ⟨rfl, ?_⟩ | refine ⟨⟨_, rfl⟩, ?_⟩ | refine Or.inl ⟨_, _, _, rfl, rfl, rfl, ?_⟩ | refine ⟨_, _, _, rfl, rfl, ?_⟩)
  refine ⟨_, _, _, _, rfl, rfl, by rw [dget_map, if_pos hm], ?_⟩
  repeat (first | refine ⟨_, rfl, rfl, List.nodup_nil, ?_⟩ | refine ⟨_, rfl, Nat.le_of_ble_eq_true rfl, ?_⟩ | refine ⟨_, rfl, ?_⟩ | refine ⟨_, _, rfl, rfl, ?_⟩ | refine ⟨_, _, _, rfl, rfl, by decide +kernel, ?_⟩ | refine Or.inl ⟨_, rfl, ?_⟩ | refine Or.inr ⟨_, rfl, ?_⟩ | refine Or.inl ⟨_, _, rfl, rfl, ?_⟩ | refine ⟨_, _, rfl, ?_⟩ | refine ⟨rfl, ?_⟩ | refine ⟨⟨_, rfl⟩, ?_⟩ | refine Or.inl ⟨_, _, _, rfl, rfl, rfl, ?_⟩ | refine ⟨_, _, _, rfl, rfl, ?_⟩)
  refine ⟨_, teq_strs (ys := []) (fun x hx => (hg.good x (hg.giv m hm x hx).1).ok) (by simp), ?_⟩
  repeat (first | refine ⟨_, rfl, rfl, List.nodup_nil, ?_⟩ | refine ⟨_, rfl, Nat.le_of_ble_eq_true rfl, ?_⟩ | refine ⟨_, rfl, ?_⟩ | refine ⟨_, _, rfl, rfl, ?_⟩ | refine ⟨_, _, _, rfl, rfl, by decide +kernel, ?_⟩ | refine Or.inl ⟨_, rfl, ?_⟩ | refine Or.inr ⟨_, rfl, ?_⟩ | refine Or.inl ⟨_, _, rfl, rfl, ?_⟩ | refine ⟨_, _, rfl, ?_⟩ | refine ⟨rfl, ?_⟩ | refine ⟨⟨_, rfl⟩, ?_⟩ | refine Or.inl ⟨_, _, _, rfl, rfl, rfl, ?_⟩ | refine ⟨_, _, _, rfl, rfl, ?_⟩)
  refine iteFq (by simp [h0]) ?_
  exact q
def k_with_list : CT := fun us Q => ∃ ms L m es, us = [strsT ms, listsT ms L, .str m, strsT es] ∧ LsOk ms L ∧ m ∈ ms ∧ ∀ fl, Q (fl, listsT ms fun x => if x = m then es else L x)
theorem ok_with_list {f : Addr} {fd : FuncData} {C_Lost : Addr} (B : Blt mg) (TX : Txt K mg C_Lost)  (F : Fun K "with_list" "with_list" s_with_list f fd) : FnOk P w K mg base CX0 1 f fd ["members", "lists", "member", "entries"] (spOf K 4 (rc k_with_list)) := by
  refine fn_r (k := 0) F sc_with_list rfl fun cdv A outer s H E hr => ⟨_, (qss_one (qs_ret (q_dc (own := [("one", 4)]) rfl sc_with_list.nd (qi_list (qe_var (pv 0))) (blkOk_by (N := N_with_list) (sc := defScope s_with_list) (by decide +kernel)) (fun _ _ _ _ _ => (gq_name (pg_name (i := 4) sc_with_list.nd rfl (by first | exact Or.inl rfl | exact Or.inr rfl)))) (fun _ _ _ _ _ => qts_nil) (fun _ _ _ _ _ => (qe_var (pv 4))) (fun _ _ _ _ _ => (q_if (qt_cmp (qc_eq (Room.hu hr)) (qe_var (pv 4)) (qe_var (pv 2)) (by rfl)) (q_list rfl rfl B.list (qa_cons (qe_var (pv 3)) qa_nil)) (q_list rfl rfl B.list (qa_cons (q_dget (Room.hu1 hr) (qe_var (pv 1)) (qe_var (pv 4)) (fun _ _ => rfl)) qa_nil))))))), ?_⟩
  -- names: 0 members, 1 lists, 2 member, 3 entries, 4 one
  rintro us Q hl ⟨ms, L, m, es, rfl, hg, hm, q⟩
  repeat (first | refine ⟨_, rfl, rfl, List.nodup_nil, ?_⟩ | refine ⟨_, rfl, Nat.le_of_ble_eq_true rfl, ?_⟩ | refine ⟨_, rfl, ?_⟩ | refine ⟨_, _, rfl, rfl, ?_⟩ | refine ⟨_, _, _, rfl, rfl, by decide +kernel, ?_⟩ | refine Or.inl ⟨_, rfl, ?_⟩ | refine Or.inr ⟨_, rfl, ?_⟩ | refine Or.inl ⟨_, _, rfl, rfl, ?_⟩ | refine ⟨_, _, rfl, ?_⟩ | refine ⟨rfl, ?_⟩ | refine ⟨⟨_, rfl⟩, ?_⟩ | refine Or.inl ⟨_, _, _, rfl, rfl, rfl, ?_⟩ | refine ⟨_, _, _, rfl, rfl, ?_⟩)
  refine ⟨by have := hg.le; simp at *; omega, dc_map T.str Sum.inr (fun x => (true, strsT (if x = m then es else L x))) ms (fun c hc Kb hk => ?_) (nodup_inr hg.nd) ?_⟩
  · repeat (first | refine ⟨_, rfl, rfl, List.nodup_nil, ?_⟩ | refine ⟨_, rfl, Nat.le_of_ble_eq_true rfl, ?_⟩ | refine ⟨_, rfl, ?_⟩ | refine ⟨_, _, rfl, rfl, ?_⟩ | refine ⟨_, _, _, rfl, rfl, by decide +kernel, ?_⟩ | refine Or.inl ⟨_, rfl, ?_⟩ | refine Or.inr ⟨_, rfl, ?_⟩ | refine Or.inl ⟨_, _, rfl, rfl, ?_⟩ | refine ⟨_, _, rfl, ?_⟩ | refine ⟨rfl, ?_⟩ | refine ⟨⟨_, rfl⟩, ?_⟩ | refine Or.inl ⟨_, _, _, rfl, rfl, rfl, ?_⟩ | refine ⟨_, _, _, rfl, rfl, ?_⟩)
    refine ⟨_, teq_str (hg.good c hc).ok (hg.good m hm).ok, ?_⟩
    repeat (first | refine ⟨_, rfl, rfl, List.nodup_nil, ?_⟩ | refine ⟨_, rfl, Nat.le_of_ble_eq_true rfl, ?_⟩ | refine ⟨_, rfl, ?_⟩ | refine ⟨_, _, rfl, rfl, ?_⟩ | refine ⟨_, _, _, rfl, rfl, by decide +kernel, ?_⟩ | refine Or.inl ⟨_, rfl, ?_⟩ | refine Or.inr ⟨_, rfl, ?_⟩ | refine Or.inl ⟨_, _, rfl, rfl, ?_⟩ | refine ⟨_, _, rfl, ?_⟩ | refine ⟨rfl, ?_⟩ | refine ⟨⟨_, rfl⟩, ?_⟩ | refine Or.inl ⟨_, _, _, rfl, rfl, rfl, ?_⟩ | refine ⟨_, _, _, rfl, rfl, ?_⟩)
    by_cases h : c = m
    · refine iteTq (by simp [h]) ?_
      repeat (first | refine ⟨_, rfl, rfl, List.nodup_nil, ?_⟩ | refine ⟨_, rfl, Nat.le_of_ble_eq_true rfl, ?_⟩ | refine ⟨_, rfl, ?_⟩ | refine ⟨_, _, rfl, rfl, ?_⟩ | refine ⟨_, _, _, rfl, rfl, by decide +kernel, ?_⟩ | refine Or.inl ⟨_, rfl, ?_⟩ | refine Or.inr ⟨_, rfl, ?_⟩ | refine Or.inl ⟨_, _, rfl, rfl, ?_⟩ | refine ⟨_, _, rfl, ?_⟩ | refine ⟨rfl, ?_⟩ | refine ⟨⟨_, rfl⟩, ?_⟩ | refine Or.inl ⟨_, _, _, rfl, rfl, rfl, ?_⟩ | refine ⟨_, _, _, rfl, rfl, ?_⟩)
      refine Or.inl ⟨_, Or.inl rfl, ?_⟩
      rw [mkL_strs]
      rw [if_pos h] at hk
      exact ⟨_, rfl, hk⟩
    · refine iteFq (by simp [h]) ?_
      repeat (first | refine ⟨_, rfl, rfl, List.nodup_nil, ?_⟩ | refine ⟨_, rfl, Nat.le_of_ble_eq_true rfl, ?_⟩ | refine ⟨_, rfl, ?_⟩ | refine ⟨_, _, rfl, rfl, ?_⟩ | refine ⟨_, _, _, rfl, rfl, by decide +kernel, ?_⟩ | refine Or.inl ⟨_, rfl, ?_⟩ | refine Or.inr ⟨_, rfl, ?_⟩ | refine Or.inl ⟨_, _, rfl, rfl, ?_⟩ | refine ⟨_, _, rfl, ?_⟩ | refine ⟨rfl, ?_⟩ | refine ⟨⟨_, rfl⟩, ?_⟩ | refine Or.inl ⟨_, _, _, rfl, rfl, rfl, ?_⟩ | refine ⟨_, _, _, rfl, rfl, ?_⟩)
      refine ⟨_, _, _, _, rfl, rfl, by rw [dget_map, if_pos hc], ?_⟩
      repeat (first | refine ⟨_, rfl, rfl, List.nodup_nil, ?_⟩ | refine ⟨_, rfl, Nat.le_of_ble_eq_true rfl, ?_⟩ | refine ⟨_, rfl, ?_⟩ | refine ⟨_, _, rfl, rfl, ?_⟩ | refine ⟨_, _, _, rfl, rfl, by decide +kernel, ?_⟩ | refine Or.inl ⟨_, rfl, ?_⟩ | refine Or.inr ⟨_, rfl, ?_⟩ | refine Or.inl ⟨_, _, rfl, rfl, ?_⟩ | refine ⟨_, _, rfl, ?_⟩ | refine ⟨rfl, ?_⟩ | refine ⟨⟨_, rfl⟩, ?_⟩ | refine Or.inl ⟨_, _, _, rfl, rfl, rfl, ?_⟩ | refine ⟨_, _, _, rfl, rfl, ?_⟩)
      refine Or.inl ⟨_, Or.inl rfl, ?_⟩
      rw [mkL_strs]
      rw [if_neg h] at hk
      exact ⟨_, rfl, hk⟩
  · exact qo2 (q true) (by simp [listsT, dmap, Function.comp_def, okO])
/-- a bag of names -/
def bagN (ns : List Str) (c : Str → Nat) : T := dmap ns fun n => .int (c n : Int)
def k_arrangements : CT := fun us Q => ∃ ns c, us = [bagN ns c] ∧ tot ns c ≤ 60 ∧ Q (false, .int (M ns c : Nat))
theorem ok_arrangements {f : Addr} {fd : FuncData} {C_Lost : Addr} (B : Blt mg) (TX : Txt K mg C_Lost)  (F : Fun K "arrangements" "arrangements" s_arrangements f fd) : FnOk P w K mg base CX0 1 f fd ["bag"] (spOf K 1 (rc k_arrangements)) := by
  refine fn_r (k := 0) F sc_arrangements rfl fun cdv A outer s H E hr => ⟨_, (qss_cons (qs_setF (ps_set (i := 1) sc_arrangements.nd rfl (by first | exact Or.inl rfl | exact Or.inr rfl) (qe_c pe_int)) (hp := by decide))
      (qss_cons (qs_setF (ps_set (i := 2) sc_arrangements.nd rfl (by first | exact Or.inl rfl | exact Or.inr rfl) (qe_c pe_int)) (hp := by decide))
      (qss_cons (qs_for PassesOwn.never rfl (qi_values (qe_var (pv 0))) (gq_name (pg_name (i := 3) sc_arrangements.nd rfl (by first | exact Or.inl rfl | exact Or.inr rfl))) (qss_one (qs_for PassesOwn.never rfl (qi_range1 rfl B.range (qa_cons (qe_var (pv 3)) qa_nil)) (gq_name (pg_name (i := 4) sc_arrangements.nd rfl (by first | exact Or.inl rfl | exact Or.inr rfl))) (qss_cons (qs_aug (ps_aug (i := 2) sc_arrangements.nd rfl (by first | exact Or.inl rfl | exact Or.inr rfl) (qe_c pe_int) ip_add) br_ip_add (hp := by decide))
      (qss_one (qs_setF (ps_set (i := 1) sc_arrangements.nd rfl (by first | exact Or.inl rfl | exact Or.inr rfl) (q_div (q_mul (qe_var (pv 1)) (qe_var (pv 2))) (q_add (qe_var (pv 4)) (qe_c pe_int)))) (hp := by decide)))) (hpn := by decide))) (hpn := by decide))
      (qss_one (qs_ret (qe_var (pv 1))))))), ?_⟩
  -- names: 0 bag, 1 found, 2 number, 3 many, 4 place
  rintro us Q hl ⟨ns, c, rfl, ht, q⟩
  repeat (first | refine ⟨_, rfl, rfl, List.nodup_nil, ?_⟩ | refine ⟨_, rfl, Nat.le_of_ble_eq_true rfl, ?_⟩ | refine ⟨_, rfl, ?_⟩ | refine ⟨_, _, rfl, rfl, ?_⟩ | refine ⟨_, _, _, rfl, rfl, by decide +kernel, ?_⟩ | refine Or.inl ⟨_, rfl, ?_⟩ | refine Or.inr ⟨_, rfl, ?_⟩ | refine Or.inl ⟨_, _, rfl, rfl, ?_⟩ | refine ⟨_, _, rfl, ?_⟩ | refine ⟨rfl, ?_⟩ | refine ⟨⟨_, rfl⟩, ?_⟩ | refine Or.inl ⟨_, _, _, rfl, rfl, rfl, ?_⟩ | refine ⟨_, _, _, rfl, rfl, ?_⟩)
  refine for_rec (fun n => T.int (c n : Int)) (fun xs e => ∃ ps o3 o4, ps ++ xs = ns ∧ e = [some (false, bagN ns c), some (false, .int (M ps c : Nat)), some (false, .int (tot ps c : Nat)), o3, o4]) ?_ ?_ ns _ ⟨[], none, none, rfl, by rw [show M [] c = 1 from by simp [M, multi, fac, pf]]; rfl⟩
  · rintro e ⟨ps, o3, o4, hp, rfl⟩
    rw [List.append_nil] at hp
    subst hp
    exact ⟨_, rfl, q⟩
  · rintro n xs e N ⟨ps, o3, o4, hp, rfl⟩ hN
    have hle : tot ps c + c n ≤ 60 := by
      rw [← hp] at ht
      unfold tot at ht ⊢
      simp at ht ⊢
      omega
    repeat (first | refine ⟨_, rfl, rfl, List.nodup_nil, ?_⟩ | refine ⟨_, rfl, Nat.le_of_ble_eq_true rfl, ?_⟩ | refine ⟨_, rfl, ?_⟩ | refine ⟨_, _, rfl, rfl, ?_⟩ | refine ⟨_, _, _, rfl, rfl, by decide +kernel, ?_⟩ | refine Or.inl ⟨_, rfl, ?_⟩ | refine Or.inr ⟨_, rfl, ?_⟩ | refine Or.inl ⟨_, _, rfl, rfl, ?_⟩ | refine ⟨_, _, rfl, ?_⟩ | refine ⟨rfl, ?_⟩ | refine ⟨⟨_, rfl⟩, ?_⟩ | refine Or.inl ⟨_, _, _, rfl, rfl, rfl, ?_⟩ | refine ⟨_, _, _, rfl, rfl, ?_⟩)
    refine ⟨by omega, by omega, ?_⟩
    rw [Int.toNat_natCast]
    refine for_upto 0 (c n) (fun p e => ∃ o4, e = [some (false, bagN ns c), some (false, .int (fac (tot ps c + p) / (pf (ps.map c) * fac p) : Nat)), some (false, .int (tot ps c + p : Nat)), some (false, .int (c n)), o4]) ⟨o4, by simp [M, multi, fac, tot]⟩ ?_ ?_
    · rintro p hp e N ⟨o4, rfl⟩ hN
      repeat (first | refine ⟨_, rfl, rfl, List.nodup_nil, ?_⟩ | refine ⟨_, rfl, Nat.le_of_ble_eq_true rfl, ?_⟩ | refine ⟨_, rfl, ?_⟩ | refine ⟨_, _, rfl, rfl, ?_⟩ | refine ⟨_, _, _, rfl, rfl, by decide +kernel, ?_⟩ | refine Or.inl ⟨_, rfl, ?_⟩ | refine Or.inr ⟨_, rfl, ?_⟩ | refine Or.inl ⟨_, _, rfl, rfl, ?_⟩ | refine ⟨_, _, rfl, ?_⟩ | refine ⟨rfl, ?_⟩ | refine ⟨⟨_, rfl⟩, ?_⟩ | refine Or.inl ⟨_, _, _, rfl, rfl, rfl, ?_⟩ | refine ⟨_, _, _, rfl, rfl, ?_⟩)
      have hA : (fac (tot ps c + p) / (pf (ps.map c) * fac p)).log2 < 300 := log_fac (n := tot ps c + p) (by omega) (Nat.div_le_self _ _)
      refine ⟨mulW _ (tot ps c + p + 1) rfl (by omega) hA (log_small (by omega)), ?_⟩
      repeat (first | refine ⟨_, rfl, rfl, List.nodup_nil, ?_⟩ | refine ⟨_, rfl, Nat.le_of_ble_eq_true rfl, ?_⟩ | refine ⟨_, rfl, ?_⟩ | refine ⟨_, _, rfl, rfl, ?_⟩ | refine ⟨_, _, _, rfl, rfl, by decide +kernel, ?_⟩ | refine Or.inl ⟨_, rfl, ?_⟩ | refine Or.inr ⟨_, rfl, ?_⟩ | refine Or.inl ⟨_, _, rfl, rfl, ?_⟩ | refine ⟨_, _, rfl, ?_⟩ | refine ⟨rfl, ?_⟩ | refine ⟨⟨_, rfl⟩, ?_⟩ | refine Or.inl ⟨_, _, _, rfl, rfl, rfl, ?_⟩ | refine ⟨_, _, _, rfl, rfl, ?_⟩)
      refine ⟨divW (p + 1) (by omega) (by omega) (log_small (by omega)), ?_⟩
      refine hN _ ⟨some (false, .int (0 + (p : Int))), ?_⟩
      have e1 := multi_step (ps.map c) p
      have e2 : ((fac (tot ps c + p) / (pf (ps.map c) * fac p) : Nat) : Int) * (((tot ps c + p : Nat) : Int) + 1) / (0 + (p : Int) + 1) = ((fac (tot ps c + (p + 1)) / (pf (ps.map c) * fac (p + 1)) : Nat) : Int) := by
        unfold tot
        rw [← e1]
        simp
      show [some (false, bagN ns c), some (false, T.int _), some (false, T.int _), some (false, .int (c n)), some (false, .int (0 + (p : Int)))] = _
      rw [← e2]
      rfl
    · rintro e ⟨o4, rfl⟩
      refine hN _ ⟨ps ++ [n], some (false, .int (c n)), o4, by rw [← hp]; simp, ?_⟩
      have e1 : M (ps ++ [n]) c = fac (tot ps c + c n) / (pf (ps.map c) * fac (c n)) := by
        unfold M multi
        rw [List.map_append, pf_append]
        simp [pf, tot]
      have e2 : tot (ps ++ [n]) c = tot ps c + c n := by simp [tot]
      rw [e1, e2]
end
end Q
end

section
set_option maxRecDepth 100000
namespace Q
open PySem L2
section
variable {P : Program} {w : World} {K : PySem.W.Frag} {mg : Str → Option Value} {base : Heap}
/-- the lists of the law: the centre's is lost -/
def LL (x : Str) (laps : Nat) : Str → List Str := fun m => if m = x then [] else List.replicate laps x
def k_Lost_leads (C_Lost : Addr) : CT := fun us Q => ∃ s ms f x laps o, us = [s, .str f, listsT ms (LL x laps), .str x, .str o] ∧ (∀ m ∈ ms, goodN m) ∧ ms.length ≤ 12 ∧ f ∈ ms ∧ x ∈ ms ∧ o ∈ ms ∧ f ≠ x ∧ o ≠ x ∧ 1 ≤ laps ∧ laps ≤ 5 ∧ Q (false, .bl (decide (o = f)))
theorem ok_Lost_leads {f : Addr} {fd : FuncData} {C_Lost : Addr} (B : Blt mg) (TX : Txt K mg C_Lost)  (F : Fun K "leads" "Lost.leads" s_Lost_leads f fd) : FnOk P w K mg base CX0 1 f fd ["self", "first", "lists", "member", "one"] (spOf K 5 (rc (k_Lost_leads C_Lost))) := by
  refine fn_r (k := 0) F sc_Lost_leads rfl fun cdv A outer s H E hr => ⟨_, (qss_cons (qs_for PassesOwn.never rfl (qi_range1 rfl B.range (qa_cons (q_len rfl B.len (qa_cons (qe_var (pv 2)) qa_nil)) qa_nil)) (gq_name (pg_name (i := 5) sc_Lost_leads.nd rfl (by first | exact Or.inl rfl | exact Or.inr rfl))) (qss_cons (qs_if (QW.qt (qw_or (qt_cmp (qc_eq (Room.hu hr)) (qe_var (pv 4)) (qe_var (pv 1)) (by rfl)) (qw_or (qt_cmp (qc_eq (Room.hu hr)) (qe_var (pv 4)) (qe_var (pv 3)) (by rfl)) (qw_or1 (qt_cmp (qc_eq (Room.hu hr)) (q_dget (Room.hu1 hr) (qe_var (pv 2)) (qe_var (pv 4)) (fun _ _ => rfl)) (q_lstO qa_nil) (by rfl)))))) (qss_one qs_break) qss_nil)
      (qss_one (qs_setF (ps_set (i := 4) sc_Lost_leads.nd rfl (by first | exact Or.inl rfl | exact Or.inr rfl) (q_ix (q_dget (Room.hu1 hr) (qe_var (pv 2)) (qe_var (pv 4)) (fun _ _ => rfl)) (qe_c pe_int))) (hp := by decide)))) (hpn := by decide))
      (qss_one (qs_ret (q_cmp (qc_eq (Room.hu hr)) (qe_var (pv 4)) (qe_var (pv 1)) (by rfl))))), ?_⟩
  -- names: 0 self, 1 first, 2 lists, 3 member, 4 one, 5 turn
  rintro us Q hl ⟨sf, ms, f, x, laps, o, rfl, hg, hn, hf, hx, ho, hfx, hox, h1, h5, q⟩
  have ne : strsT (LL x laps o) = strsT (List.replicate laps x) := by unfold LL; rw [if_neg hox]
  repeat (first | refine ⟨_, rfl, rfl, List.nodup_nil, ?_⟩ | refine ⟨_, rfl, Nat.le_of_ble_eq_true rfl, ?_⟩ | refine ⟨_, rfl, ?_⟩ | refine ⟨_, _, rfl, rfl, ?_⟩ | refine ⟨_, _, _, rfl, rfl, by decide +kernel, ?_⟩ | refine Or.inl ⟨_, rfl, ?_⟩ | refine Or.inr ⟨_, rfl, ?_⟩ | refine Or.inl ⟨_, _, rfl, rfl, ?_⟩ | refine ⟨_, _, rfl, ?_⟩ | refine ⟨rfl, ?_⟩ | refine ⟨⟨_, rfl⟩, ?_⟩ | refine Or.inl ⟨_, _, _, rfl, rfl, rfl, ?_⟩ | refine ⟨_, _, _, rfl, rfl, ?_⟩)
  refine ⟨by omega, by simp; omega, ?_⟩
  rw [Int.toNat_natCast]
  refine for_uptoB 0 _ (fun p e => ∃ y o5, e = [some (false, sf), some (false, .str f), some (false, listsT ms (LL x laps)), some (false, .str x), some (false, .str y), o5] ∧ (y = o ∨ (y = x ∧ o ≠ f))) (fun e => ∃ y o5, e = [some (false, sf), some (false, .str f), some (false, listsT ms (LL x laps)), some (false, .str x), some (false, .str y), o5] ∧ (y = o ∨ (y = x ∧ o ≠ f))) ⟨o, none, rfl, .inl rfl⟩ ?_ (fun _ h => h) ?_
  · rintro p hp e N Bk ⟨y, o5, rfl, hy⟩ hN hB
    have hym : y ∈ ms := by rcases hy with rfl | ⟨rfl, _⟩ <;> assumption
    repeat (first | refine ⟨_, rfl, rfl, List.nodup_nil, ?_⟩ | refine ⟨_, rfl, Nat.le_of_ble_eq_true rfl, ?_⟩ | refine ⟨_, rfl, ?_⟩ | refine ⟨_, _, rfl, rfl, ?_⟩ | refine ⟨_, _, _, rfl, rfl, by decide +kernel, ?_⟩ | refine Or.inl ⟨_, rfl, ?_⟩ | refine Or.inr ⟨_, rfl, ?_⟩ | refine Or.inl ⟨_, _, rfl, rfl, ?_⟩ | refine ⟨_, _, rfl, ?_⟩ | refine ⟨rfl, ?_⟩ | refine ⟨⟨_, rfl⟩, ?_⟩ | refine Or.inl ⟨_, _, _, rfl, rfl, rfl, ?_⟩ | refine ⟨_, _, _, rfl, rfl, ?_⟩)
    refine ⟨_, teq_str (hg y hym).ok (hg f hf).ok, ?_⟩
    repeat (first | refine ⟨_, rfl, rfl, List.nodup_nil, ?_⟩ | refine ⟨_, rfl, Nat.le_of_ble_eq_true rfl, ?_⟩ | refine ⟨_, rfl, ?_⟩ | refine ⟨_, _, rfl, rfl, ?_⟩ | refine ⟨_, _, _, rfl, rfl, by decide +kernel, ?_⟩ | refine Or.inl ⟨_, rfl, ?_⟩ | refine Or.inr ⟨_, rfl, ?_⟩ | refine Or.inl ⟨_, _, rfl, rfl, ?_⟩ | refine ⟨_, _, rfl, ?_⟩ | refine ⟨rfl, ?_⟩ | refine ⟨⟨_, rfl⟩, ?_⟩ | refine Or.inl ⟨_, _, _, rfl, rfl, rfl, ?_⟩ | refine ⟨_, _, _, rfl, rfl, ?_⟩)
    by_cases h1' : y = f
    · refine iteTq (by simp [h1']) ?_
      repeat (first | refine ⟨_, rfl, rfl, List.nodup_nil, ?_⟩ | refine ⟨_, rfl, Nat.le_of_ble_eq_true rfl, ?_⟩ | refine ⟨_, rfl, ?_⟩ | refine ⟨_, _, rfl, rfl, ?_⟩ | refine ⟨_, _, _, rfl, rfl, by decide +kernel, ?_⟩ | refine Or.inl ⟨_, rfl, ?_⟩ | refine Or.inr ⟨_, rfl, ?_⟩ | refine Or.inl ⟨_, _, rfl, rfl, ?_⟩ | refine ⟨_, _, rfl, ?_⟩ | refine ⟨rfl, ?_⟩ | refine ⟨⟨_, rfl⟩, ?_⟩ | refine Or.inl ⟨_, _, _, rfl, rfl, rfl, ?_⟩ | refine ⟨_, _, _, rfl, rfl, ?_⟩)
      exact hB _ ⟨y, _, rfl, hy⟩
    refine iteFq (by simp [h1']) ?_
    repeat (first | refine ⟨_, rfl, rfl, List.nodup_nil, ?_⟩ | refine ⟨_, rfl, Nat.le_of_ble_eq_true rfl, ?_⟩ | refine ⟨_, rfl, ?_⟩ | refine ⟨_, _, rfl, rfl, ?_⟩ | refine ⟨_, _, _, rfl, rfl, by decide +kernel, ?_⟩ | refine Or.inl ⟨_, rfl, ?_⟩ | refine Or.inr ⟨_, rfl, ?_⟩ | refine Or.inl ⟨_, _, rfl, rfl, ?_⟩ | refine ⟨_, _, rfl, ?_⟩ | refine ⟨rfl, ?_⟩ | refine ⟨⟨_, rfl⟩, ?_⟩ | refine Or.inl ⟨_, _, _, rfl, rfl, rfl, ?_⟩ | refine ⟨_, _, _, rfl, rfl, ?_⟩)
    refine ⟨_, teq_str (hg y hym).ok (hg x hx).ok, ?_⟩
    repeat (first | refine ⟨_, rfl, rfl, List.nodup_nil, ?_⟩ | refine ⟨_, rfl, Nat.le_of_ble_eq_true rfl, ?_⟩ | refine ⟨_, rfl, ?_⟩ | refine ⟨_, _, rfl, rfl, ?_⟩ | refine ⟨_, _, _, rfl, rfl, by decide +kernel, ?_⟩ | refine Or.inl ⟨_, rfl, ?_⟩ | refine Or.inr ⟨_, rfl, ?_⟩ | refine Or.inl ⟨_, _, rfl, rfl, ?_⟩ | refine ⟨_, _, rfl, ?_⟩ | refine ⟨rfl, ?_⟩ | refine ⟨⟨_, rfl⟩, ?_⟩ | refine Or.inl ⟨_, _, _, rfl, rfl, rfl, ?_⟩ | refine ⟨_, _, _, rfl, rfl, ?_⟩)
    by_cases h2' : y = x
    · refine iteTq (by simp [h2']) ?_
      repeat (first | refine ⟨_, rfl, rfl, List.nodup_nil, ?_⟩ | refine ⟨_, rfl, Nat.le_of_ble_eq_true rfl, ?_⟩ | refine ⟨_, rfl, ?_⟩ | refine ⟨_, _, rfl, rfl, ?_⟩ | refine ⟨_, _, _, rfl, rfl, by decide +kernel, ?_⟩ | refine Or.inl ⟨_, rfl, ?_⟩ | refine Or.inr ⟨_, rfl, ?_⟩ | refine Or.inl ⟨_, _, rfl, rfl, ?_⟩ | refine ⟨_, _, rfl, ?_⟩ | refine ⟨rfl, ?_⟩ | refine ⟨⟨_, rfl⟩, ?_⟩ | refine Or.inl ⟨_, _, _, rfl, rfl, rfl, ?_⟩ | refine ⟨_, _, _, rfl, rfl, ?_⟩)
      exact hB _ ⟨y, _, rfl, hy⟩
    refine iteFq (by simp [h2']) ?_
    have hyo : y = o := by
      rcases hy with h | ⟨h, _⟩
      · exact h
      · exact absurd h h2'
    subst hyo
    repeat (first | refine ⟨_, rfl, rfl, List.nodup_nil, ?_⟩ | refine ⟨_, rfl, Nat.le_of_ble_eq_true rfl, ?_⟩ | refine ⟨_, rfl, ?_⟩ | refine ⟨_, _, rfl, rfl, ?_⟩ | refine ⟨_, _, _, rfl, rfl, by decide +kernel, ?_⟩ | refine Or.inl ⟨_, rfl, ?_⟩ | refine Or.inr ⟨_, rfl, ?_⟩ | refine Or.inl ⟨_, _, rfl, rfl, ?_⟩ | refine ⟨_, _, rfl, ?_⟩ | refine ⟨rfl, ?_⟩ | refine ⟨⟨_, rfl⟩, ?_⟩ | refine Or.inl ⟨_, _, _, rfl, rfl, rfl, ?_⟩ | refine ⟨_, _, _, rfl, rfl, ?_⟩)
    refine ⟨_, _, _, _, rfl, rfl, by rw [dget_map, if_pos hym], ?_⟩
    rw [ne]
    repeat (first | refine ⟨_, rfl, rfl, List.nodup_nil, ?_⟩ | refine ⟨_, rfl, Nat.le_of_ble_eq_true rfl, ?_⟩ | refine ⟨_, rfl, ?_⟩ | refine ⟨_, _, rfl, rfl, ?_⟩ | refine ⟨_, _, _, rfl, rfl, by decide +kernel, ?_⟩ | refine Or.inl ⟨_, rfl, ?_⟩ | refine Or.inr ⟨_, rfl, ?_⟩ | refine Or.inl ⟨_, _, rfl, rfl, ?_⟩ | refine ⟨_, _, rfl, ?_⟩ | refine ⟨rfl, ?_⟩ | refine ⟨⟨_, rfl⟩, ?_⟩ | refine Or.inl ⟨_, _, _, rfl, rfl, rfl, ?_⟩ | refine ⟨_, _, _, rfl, rfl, ?_⟩)
    refine ⟨_, teq_strs (ys := []) (fun z hz => by rw [(List.mem_replicate.mp hz).2]; exact (hg x hx).ok) (by simp), ?_⟩
    repeat (first | refine ⟨_, rfl, rfl, List.nodup_nil, ?_⟩ | refine ⟨_, rfl, Nat.le_of_ble_eq_true rfl, ?_⟩ | refine ⟨_, rfl, ?_⟩ | refine ⟨_, _, rfl, rfl, ?_⟩ | refine ⟨_, _, _, rfl, rfl, by decide +kernel, ?_⟩ | refine Or.inl ⟨_, rfl, ?_⟩ | refine Or.inr ⟨_, rfl, ?_⟩ | refine Or.inl ⟨_, _, rfl, rfl, ?_⟩ | refine ⟨_, _, rfl, ?_⟩ | refine ⟨rfl, ?_⟩ | refine ⟨⟨_, rfl⟩, ?_⟩ | refine Or.inl ⟨_, _, _, rfl, rfl, rfl, ?_⟩ | refine ⟨_, _, _, rfl, rfl, ?_⟩)
    refine iteFq (by simp; omega) ?_
    repeat (first | refine ⟨_, rfl, rfl, List.nodup_nil, ?_⟩ | refine ⟨_, rfl, Nat.le_of_ble_eq_true rfl, ?_⟩ | refine ⟨_, rfl, ?_⟩ | refine ⟨_, _, rfl, rfl, ?_⟩ | refine ⟨_, _, _, rfl, rfl, by decide +kernel, ?_⟩ | refine Or.inl ⟨_, rfl, ?_⟩ | refine Or.inr ⟨_, rfl, ?_⟩ | refine Or.inl ⟨_, _, rfl, rfl, ?_⟩ | refine ⟨_, _, rfl, ?_⟩ | refine ⟨rfl, ?_⟩ | refine ⟨⟨_, rfl⟩, ?_⟩ | refine Or.inl ⟨_, _, _, rfl, rfl, rfl, ?_⟩ | refine ⟨_, _, _, rfl, rfl, ?_⟩)
    refine ⟨_, _, _, _, rfl, rfl, by rw [dget_map, if_pos hym], ?_⟩
    rw [ne]
    refine Or.inl ⟨_, _, .str x, rfl, rfl, ?h, ?_⟩
    case h =>
      show atI ((List.replicate laps x).map T.str) ((0 : Nat) : Int) = _
      refine atI_nat ?_
      obtain ⟨k, rfl⟩ : ∃ k, laps = k + 1 := ⟨laps - 1, by omega⟩
      rfl
    exact hN _ ⟨x, _, rfl, .inr ⟨rfl, h1'⟩⟩
  · rintro e ⟨y, o5, rfl, hy⟩
    have hym : y ∈ ms := by rcases hy with rfl | ⟨rfl, _⟩ <;> assumption
    repeat (first | refine ⟨_, rfl, rfl, List.nodup_nil, ?_⟩ | refine ⟨_, rfl, Nat.le_of_ble_eq_true rfl, ?_⟩ | refine ⟨_, rfl, ?_⟩ | refine ⟨_, _, rfl, rfl, ?_⟩ | refine ⟨_, _, _, rfl, rfl, by decide +kernel, ?_⟩ | refine Or.inl ⟨_, rfl, ?_⟩ | refine Or.inr ⟨_, rfl, ?_⟩ | refine Or.inl ⟨_, _, rfl, rfl, ?_⟩ | refine ⟨_, _, rfl, ?_⟩ | refine ⟨rfl, ?_⟩ | refine ⟨⟨_, rfl⟩, ?_⟩ | refine Or.inl ⟨_, _, _, rfl, rfl, rfl, ?_⟩ | refine ⟨_, _, _, rfl, rfl, ?_⟩)
    refine ⟨_, teq_str (hg y hym).ok (hg f hf).ok, ?_⟩
    refine qo2 q ?_
    rcases hy with rfl | ⟨rfl, h⟩
    · rfl
    · simp [h, Ne.symm hfx]
end
end Q
end

section
set_option maxRecDepth 100000
set_option maxHeartbeats 2000000
namespace Q
open PySem L2
section
variable {P : Program} {w : World} {K : PySem.W.Frag} {mg : Str → Option Value} {base : Heap}
/-- what the law asks of its members and lists -/
structure LawOk (ms : List Str) (f x : Str) (laps : Nat) : Prop extends MsOk ms where
  nd : ms.Nodup
  hf : f ∈ ms
  hx : x ∈ ms
  h1 : 1 ≤ laps
  h5 : laps ≤ 5
  h3 : 3 ≤ ms.length
theorem LawOk.ls {ms : List Str} {f x : Str} {laps : Nat} (h : LawOk ms f x laps) : LsOk ms (LL x laps) where
  toMsOk := h.toMsOk
  nd := h.nd
  giv := fun m hm g hg => by
    unfold LL at hg
    split at hg
    · simp at hg
    · rename_i hne
      have := (List.mem_replicate.mp hg).2
      subst this
      exact ⟨h.hx, fun e => hne e.symm⟩
  few := fun m hm => by
    have := h.h5
    unfold LL
    split
    · simp
    · simp; omega
def oth (ms : List Str) (x : Str) : List Str := ms.filter fun o => decide (o ≠ x)
theorem sum_zero : ∀ l : List Str, (l.map fun _ => 0).sum = 0
  | [] => rfl
  | a :: l => by rw [List.map_cons, List.sum_cons, sum_zero l]
theorem named_zero {ms : List Str} {x : Str} {laps : Nat} {o : Str} (h : o ≠ x) : namedBy ms (LL x laps) o = 0 := by
  unfold namedBy
  have : (ms.map fun m => (LL x laps m).count o) = ms.map fun _ => 0 := List.map_congr_left fun m _ => by
    unfold LL
    split
    · rfl
    · rw [List.count_replicate]
      have : ¬ x = o := fun e => h e.symm
      simp [this]
  rw [this]
  exact sum_zero ms
def c0 (f : Str) (laps : Nat) : Str → Nat := fun o => laps + if o = f then 1 else 0
theorem surp_c0 {ms : List Str} {f x : Str} {laps : Nat} {o : Str} (h : o ≠ x) : surp ms f (LL x laps) o = (c0 f laps o : Int) := by
  unfold surp c0
  rw [named_zero h]
  unfold LL
  rw [if_neg h, List.length_replicate]
  by_cases e : o = f <;> simp [e]
/-- who may start -/
def stOf (ms : List Str) (f x : Str) : List Str := if f = x then oth ms x else [f]
def lostT (C : Addr) (ms : List Str) (f x : Str) (laps : Nat) : T := .obj C ["bag", "possible", "starts"] [bagN (oth ms x) (c0 f laps), .bl true, strsT (stOf ms f x)]
def k_Lostzz_initzz (C_Lost : Addr) : Con := fun ts Q => ∃ ms f x laps, ts = [(true, .obj C_Lost [] []), (false, strsT ms), (false, .str f), (false, listsT ms (LL x laps)), (false, .str x)] ∧ LawOk ms f x laps ∧ Q (false, .non) [some (true, lostT C_Lost ms f x laps), none, none, none, none]
theorem ok_Lostzz_initzz {f : Addr} {fd : FuncData} {C_Lost : Addr} (B : Blt mg) (TX : Txt K mg C_Lost) (G_surpluses_of : Callee P w K mg base "surpluses_of" 2 3 (rc k_surpluses_of)) (G_least_ring : Callee P w K mg base "least_ring" 2 1 (rc k_least_ring)) (G_starts_of : Callee P w K mg base "starts_of" 1 3 (rc k_starts_of)) (G_Lost_leads : CalleeM P w K mg base C_Lost "leads" 1 5 (rc (k_Lost_leads C_Lost))) (F : Fun K "__init__" "Lost.__init__" s_Lostzz_initzz f fd) : FnOk P w K mg base CX0 3 f fd ["self", "members", "first", "lists", "member"] (spOf K 5 (k_Lostzz_initzz C_Lost)) := by
  refine fn_q (k := 2) [true, false, false, false, false] F sc_Lostzz_initzz rfl (by decide) fun cdv A outer s H E hr => ⟨_, (qss_cons (qs_setF (ps_set (i := 5) sc_Lostzz_initzz.nd rfl (by first | exact Or.inl rfl | exact Or.inr rfl) (q_callC G_surpluses_of hr (by decide) rfl (qa_cons (qe_var (pv 1)) (qa_cons (qe_var (pv 2)) (qa_cons (qe_var (pv 3)) qa_nil))))) (hp := by decide))
      (qss_cons (qs_fld (qp_slot (pv 0)) (q_dc (own := [("one", 6)]) rfl sc_Lostzz_initzz.nd (qi_list (qe_var (pv 1))) (blkOk_by (N := N_Lostzz_initzz) (sc := defScope s_Lostzz_initzz) (by decide +kernel)) (fun _ _ _ _ _ => (gq_name (pg_name (i := 6) sc_Lostzz_initzz.nd rfl (by first | exact Or.inl rfl | exact Or.inr rfl)))) (fun _ _ _ _ _ => (qts_one (qt_cmp (qc_ne (Room.hu hr)) (qe_var (pv 6)) (qe_var (pv 4)) (by rfl)))) (fun _ _ _ _ _ => (qe_var (pv 6))) (fun _ _ _ _ _ => (q_dget (Room.hu1 hr) (qe_var (pv 5)) (qe_var (pv 6)) (fun _ _ => rfl)))) TX.cls_Lost TX.na_Lost_bag)
      (qss_cons (qs_fld (qp_slot (pv 0)) (q_quiet (q_all rfl rfl B.all (qa_cons (q_lc (own := [("number", 7)]) rfl sc_Lostzz_initzz.nd (qi_values (q_fld (qe_var (pv 0)) TX.cls_Lost TX.na_Lost_bag)) (blkOk_by (N := N_Lostzz_initzz) (sc := defScope s_Lostzz_initzz) (by decide +kernel)) (fun _ _ _ _ _ => (gq_name (pg_name (i := 7) sc_Lostzz_initzz.nd rfl (by first | exact Or.inl rfl | exact Or.inr rfl)))) (fun _ _ _ _ _ => qts_nil) (fun _ _ _ _ _ => (q_cmp qc_ge (qe_var (pv 7)) (qe_c pe_int) (by rfl)))) qa_nil))) TX.cls_Lost TX.na_Lost_possible)
      (qss_cons (qs_fld (qp_slot (pv 0)) (q_quiet (q_and (q_fld (qe_var (pv 0)) TX.cls_Lost TX.na_Lost_possible) (q_one (q_cmp qc_isN (q_callC G_least_ring hr (by decide) rfl (qa_cons (q_callC G_starts_of hr (by decide) rfl (qa_cons (qe_var (pv 1)) (qa_cons (qe_var (pv 2)) (qa_cons (qe_var (pv 3)) qa_nil)))) qa_nil)) (qe_c pe_non) (by rfl))))) TX.cls_Lost TX.na_Lost_possible)
      (qss_one (qs_fld (qp_slot (pv 0)) (q_quiet (q_lc (own := [("one", 6)]) rfl sc_Lostzz_initzz.nd (qi_keys (q_fld (qe_var (pv 0)) TX.cls_Lost TX.na_Lost_bag)) (blkOk_by (N := N_Lostzz_initzz) (sc := defScope s_Lostzz_initzz) (by decide +kernel)) (fun _ _ _ _ _ => (gq_name (pg_name (i := 6) sc_Lostzz_initzz.nd rfl (by first | exact Or.inl rfl | exact Or.inr rfl)))) (fun _ _ _ _ _ => (qts_one (QW.qt (qw_or (qt_cmp (qc_eq (Room.hu hr)) (qe_var (pv 4)) (qe_var (pv 2)) (by rfl)) (qw_or1 (qt_val (q_methC G_Lost_leads TX.cls_Lost hr (qe_var (pv 0)) (qa_cons (qe_var (pv 2)) (qa_cons (qe_var (pv 3)) (qa_cons (qe_var (pv 4)) (qa_cons (qe_var (pv 6)) qa_nil)))) (by decide)))))))) (fun _ _ _ _ _ => (qe_var (pv 6))))) TX.cls_Lost TX.na_Lost_starts)))))), ?_⟩
  -- names: 0 self, 1 members, 2 first, 3 lists, 4 member, 5 many, 6 one, 7 number
  rintro ts Q hl ⟨ms, f, x, laps, rfl, hg, q⟩
  have hls := hg.ls
  repeat (first | refine ⟨_, rfl, rfl, List.nodup_nil, ?_⟩ | refine ⟨_, rfl, Nat.le_of_ble_eq_true rfl, ?_⟩ | refine ⟨_, rfl, ?_⟩ | refine ⟨_, _, rfl, rfl, ?_⟩ | refine ⟨_, _, _, rfl, rfl, by decide +kernel, ?_⟩ | refine Or.inl ⟨_, rfl, ?_⟩ | refine Or.inr ⟨_, rfl, ?_⟩ | refine Or.inl ⟨_, _, rfl, rfl, ?_⟩ | refine ⟨_, _, rfl, ?_⟩ | refine ⟨rfl, ?_⟩ | refine ⟨⟨_, rfl⟩, ?_⟩ | refine Or.inl ⟨_, _, _, rfl, rfl, rfl, ?_⟩ | refine ⟨_, _, _, rfl, rfl, ?_⟩)
  refine ⟨_, _, _, rfl, hls, hg.hf, fun fl => ?_⟩
  repeat (first | refine ⟨_, rfl, rfl, List.nodup_nil, ?_⟩ | refine ⟨_, rfl, Nat.le_of_ble_eq_true rfl, ?_⟩ | refine ⟨_, rfl, ?_⟩ | refine ⟨_, _, rfl, rfl, ?_⟩ | refine ⟨_, _, _, rfl, rfl, by decide +kernel, ?_⟩ | refine Or.inl ⟨_, rfl, ?_⟩ | refine Or.inr ⟨_, rfl, ?_⟩ | refine Or.inl ⟨_, _, rfl, rfl, ?_⟩ | refine ⟨_, _, rfl, ?_⟩ | refine ⟨rfl, ?_⟩ | refine ⟨⟨_, rfl⟩, ?_⟩ | refine Or.inl ⟨_, _, _, rfl, rfl, rfl, ?_⟩ | refine ⟨_, _, _, rfl, rfl, ?_⟩)
  refine ⟨by have := hg.le; simp at *; omega, dc_flt T.str (fun o => decide (o ≠ x)) Sum.inr (fun o => (false, .int (surp ms f (LL x laps) o))) ms (fun c hc Kb k1 k2 => ?_) (nodup_inr (hg.nd.filter _)) ?_⟩
  · repeat (first | refine ⟨_, rfl, rfl, List.nodup_nil, ?_⟩ | refine ⟨_, rfl, Nat.le_of_ble_eq_true rfl, ?_⟩ | refine ⟨_, rfl, ?_⟩ | refine ⟨_, _, rfl, rfl, ?_⟩ | refine ⟨_, _, _, rfl, rfl, by decide +kernel, ?_⟩ | refine Or.inl ⟨_, rfl, ?_⟩ | refine Or.inr ⟨_, rfl, ?_⟩ | refine Or.inl ⟨_, _, rfl, rfl, ?_⟩ | refine ⟨_, _, rfl, ?_⟩ | refine ⟨rfl, ?_⟩ | refine ⟨⟨_, rfl⟩, ?_⟩ | refine Or.inl ⟨_, _, _, rfl, rfl, rfl, ?_⟩ | refine ⟨_, _, _, rfl, rfl, ?_⟩)
    refine ⟨_, teq_str (hg.good c hc).ok (hg.good x hg.hx).ok, ?_⟩
    repeat (first | refine ⟨_, rfl, rfl, List.nodup_nil, ?_⟩ | refine ⟨_, rfl, Nat.le_of_ble_eq_true rfl, ?_⟩ | refine ⟨_, rfl, ?_⟩ | refine ⟨_, _, rfl, rfl, ?_⟩ | refine ⟨_, _, _, rfl, rfl, by decide +kernel, ?_⟩ | refine Or.inl ⟨_, rfl, ?_⟩ | refine Or.inr ⟨_, rfl, ?_⟩ | refine Or.inl ⟨_, _, rfl, rfl, ?_⟩ | refine ⟨_, _, rfl, ?_⟩ | refine ⟨rfl, ?_⟩ | refine ⟨⟨_, rfl⟩, ?_⟩ | refine Or.inl ⟨_, _, _, rfl, rfl, rfl, ?_⟩ | refine ⟨_, _, _, rfl, rfl, ?_⟩)
    by_cases h : c = x
    · refine iteFq (by simp [h]) ?_
      exact k2 (by simp [h])
    refine iteTq (by simp [h]) ?_
    repeat (first | refine ⟨_, rfl, rfl, List.nodup_nil, ?_⟩ | refine ⟨_, rfl, Nat.le_of_ble_eq_true rfl, ?_⟩ | refine ⟨_, rfl, ?_⟩ | refine ⟨_, _, rfl, rfl, ?_⟩ | refine ⟨_, _, _, rfl, rfl, by decide +kernel, ?_⟩ | refine Or.inl ⟨_, rfl, ?_⟩ | refine Or.inr ⟨_, rfl, ?_⟩ | refine Or.inl ⟨_, _, rfl, rfl, ?_⟩ | refine ⟨_, _, rfl, ?_⟩ | refine ⟨rfl, ?_⟩ | refine ⟨⟨_, rfl⟩, ?_⟩ | refine Or.inl ⟨_, _, _, rfl, rfl, rfl, ?_⟩ | refine ⟨_, _, _, rfl, rfl, ?_⟩)
    refine ⟨_, _, _, _, rfl, rfl, by rw [dget_map, if_pos hc], ?_⟩
    exact ⟨_, rfl, k1 (by simp [h])⟩
  have e1 : (((((ms.filter fun o => decide (o ≠ x)).map fun o => ((false, .int (surp ms f (LL x laps) o)) : R)).all okO, T.dct ((ms.filter fun o => decide (o ≠ x)).map Sum.inr) (((ms.filter fun o => decide (o ≠ x)).map fun o => ((false, .int (surp ms f (LL x laps) o)) : R)).map fun x => x.2))) : R) = (true, bagN (oth ms x) (c0 f laps)) := by
    refine Prod.ext (by simp [okO, T.isAv]) ?_
    show T.dct _ _ = T.dct _ _
    rw [List.map_map]
    refine congrArg _ (List.map_congr_left fun o ho => ?_)
    have := (List.mem_filter.mp ho).2
    show T.int _ = T.int _
    rw [surp_c0 (by simpa using this)]
  rw [e1]
  refine ⟨rfl, ⟨_, rfl⟩, _, _, rfl, by decide, ?_⟩
  refine envq [some (true, .obj C_Lost ["bag"] [bagN (oth ms x) (c0 f laps)]), some (false, strsT ms), some (false, .str f), some (false, listsT ms (LL x laps)), some (false, .str x), some (false, bagT ms (surp ms f (LL x laps))), none, none] ?_ rfl
  repeat (first | refine ⟨_, rfl, rfl, List.nodup_nil, ?_⟩ | refine ⟨_, rfl, Nat.le_of_ble_eq_true rfl, ?_⟩ | refine ⟨_, rfl, ?_⟩ | refine ⟨_, _, rfl, rfl, ?_⟩ | refine ⟨_, _, _, rfl, rfl, by decide +kernel, ?_⟩ | refine Or.inl ⟨_, rfl, ?_⟩ | refine Or.inr ⟨_, rfl, ?_⟩ | refine Or.inl ⟨_, _, rfl, rfl, ?_⟩ | refine ⟨_, _, rfl, ?_⟩ | refine ⟨rfl, ?_⟩ | refine ⟨⟨_, rfl⟩, ?_⟩ | refine Or.inl ⟨_, _, _, rfl, rfl, rfl, ?_⟩ | refine ⟨_, _, _, rfl, rfl, ?_⟩)
  have hlen : (oth ms x).length ≤ 12 := Nat.le_trans (List.length_filter_le _ _) hg.le
  refine ⟨by simp; omega, lc_map (fun o => T.int (c0 f laps o : Int)) (fun _ => (false, .bl true)) (oth ms x) (fun c hc Kb hk => ?_) ?_⟩
  · repeat (first | refine ⟨_, rfl, rfl, List.nodup_nil, ?_⟩ | refine ⟨_, rfl, Nat.le_of_ble_eq_true rfl, ?_⟩ | refine ⟨_, rfl, ?_⟩ | refine ⟨_, _, rfl, rfl, ?_⟩ | refine ⟨_, _, _, rfl, rfl, by decide +kernel, ?_⟩ | refine Or.inl ⟨_, rfl, ?_⟩ | refine Or.inr ⟨_, rfl, ?_⟩ | refine Or.inl ⟨_, _, rfl, rfl, ?_⟩ | refine ⟨_, _, rfl, ?_⟩ | refine ⟨rfl, ?_⟩ | refine ⟨⟨_, rfl⟩, ?_⟩ | refine Or.inl ⟨_, _, _, rfl, rfl, rfl, ?_⟩ | refine ⟨_, _, _, rfl, rfl, ?_⟩)
    exact qv hk (by simp)
  rw [mkR_map]
  refine ⟨_, rfl, (oth ms x).map fun _ => true, by simp [List.map_map, Function.comp_def], ?_⟩
  rw [show ((oth ms x).map fun _ => true).all id = true by simp]
  refine ⟨rfl, rfl, ⟨_, rfl⟩, _, _, rfl, by decide, ?_⟩
  refine envq [some (true, .obj C_Lost ["bag", "possible"] [bagN (oth ms x) (c0 f laps), .bl true]), some (false, strsT ms), some (false, .str f), some (false, listsT ms (LL x laps)), some (false, .str x), some (false, bagT ms (surp ms f (LL x laps))), none, none] ?_ rfl
  repeat (first | refine ⟨_, rfl, rfl, List.nodup_nil, ?_⟩ | refine ⟨_, rfl, Nat.le_of_ble_eq_true rfl, ?_⟩ | refine ⟨_, rfl, ?_⟩ | refine ⟨_, _, rfl, rfl, ?_⟩ | refine ⟨_, _, _, rfl, rfl, by decide +kernel, ?_⟩ | refine Or.inl ⟨_, rfl, ?_⟩ | refine Or.inr ⟨_, rfl, ?_⟩ | refine Or.inl ⟨_, _, rfl, rfl, ?_⟩ | refine ⟨_, _, rfl, ?_⟩ | refine ⟨rfl, ?_⟩ | refine ⟨⟨_, rfl⟩, ?_⟩ | refine Or.inl ⟨_, _, _, rfl, rfl, rfl, ?_⟩ | refine ⟨_, _, _, rfl, rfl, ?_⟩)
  refine ⟨_, _, _, rfl, hls, hg.hf, fun fl2 => ?_⟩
  repeat (first | refine ⟨_, rfl, rfl, List.nodup_nil, ?_⟩ | refine ⟨_, rfl, Nat.le_of_ble_eq_true rfl, ?_⟩ | refine ⟨_, rfl, ?_⟩ | refine ⟨_, _, rfl, rfl, ?_⟩ | refine ⟨_, _, _, rfl, rfl, by decide +kernel, ?_⟩ | refine Or.inl ⟨_, rfl, ?_⟩ | refine Or.inr ⟨_, rfl, ?_⟩ | refine Or.inl ⟨_, _, rfl, rfl, ?_⟩ | refine ⟨_, _, rfl, ?_⟩ | refine ⟨rfl, ?_⟩ | refine ⟨⟨_, rfl⟩, ?_⟩ | refine Or.inl ⟨_, _, _, rfl, rfl, rfl, ?_⟩ | refine ⟨_, _, _, rfl, rfl, ?_⟩)
  have e2 : (dmap (ms.filter fun m => decide (m ≠ f) && decide (LL x laps m ≠ [])) fun m => T.str ((LL x laps m).headD "")) = dmap (ms.filter fun m => decide (m ≠ f) && decide (LL x laps m ≠ [])) fun _ => .str x := by
    show T.dct _ _ = T.dct _ _
    refine congrArg _ (List.map_congr_left fun m hm => ?_)
    have h1 := (List.mem_filter.mp hm).2
    simp only [Bool.and_eq_true, decide_eq_true_eq] at h1
    have h2 : LL x laps m = List.replicate laps x := by
      unfold LL at h1 ⊢
      split
      · rename_i h; rw [if_pos h] at h1; exact absurd rfl h1.2
      · rfl
    have := hg.h1
    obtain ⟨k, hk⟩ : ∃ k, laps = k + 1 := ⟨laps - 1, by omega⟩
    rw [h2, hk]
    rfl
  refine ⟨_, x, congrArg (fun t => [t]) e2, fun hm => ?_, fun y hy => hg.good y (List.mem_filter.mp hy).1, hg.good x hg.hx, Nat.le_trans (List.length_filter_le _ _) hg.le, ?_⟩
  · have := (List.mem_filter.mp hm).2
    unfold LL at this
    simp at this
  repeat (first | refine ⟨_, rfl, rfl, List.nodup_nil, ?_⟩ | refine ⟨_, rfl, Nat.le_of_ble_eq_true rfl, ?_⟩ | refine ⟨_, rfl, ?_⟩ | refine ⟨_, _, rfl, rfl, ?_⟩ | refine ⟨_, _, _, rfl, rfl, by decide +kernel, ?_⟩ | refine Or.inl ⟨_, rfl, ?_⟩ | refine Or.inr ⟨_, rfl, ?_⟩ | refine Or.inl ⟨_, _, rfl, rfl, ?_⟩ | refine ⟨_, _, rfl, ?_⟩ | refine ⟨rfl, ?_⟩ | refine ⟨⟨_, rfl⟩, ?_⟩ | refine Or.inl ⟨_, _, _, rfl, rfl, rfl, ?_⟩ | refine ⟨_, _, _, rfl, rfl, ?_⟩)
  refine ⟨by decide, ?_⟩
  refine envq [some (true, .obj C_Lost ["bag", "possible"] [bagN (oth ms x) (c0 f laps), .bl true]), some (false, strsT ms), some (false, .str f), some (false, listsT ms (LL x laps)), some (false, .str x), some (false, bagT ms (surp ms f (LL x laps))), none, none] ?_ rfl
  repeat (first | refine ⟨_, rfl, rfl, List.nodup_nil, ?_⟩ | refine ⟨_, rfl, Nat.le_of_ble_eq_true rfl, ?_⟩ | refine ⟨_, rfl, ?_⟩ | refine ⟨_, _, rfl, rfl, ?_⟩ | refine ⟨_, _, _, rfl, rfl, by decide +kernel, ?_⟩ | refine Or.inl ⟨_, rfl, ?_⟩ | refine Or.inr ⟨_, rfl, ?_⟩ | refine Or.inl ⟨_, _, rfl, rfl, ?_⟩ | refine ⟨_, _, rfl, ?_⟩ | refine ⟨rfl, ?_⟩ | refine ⟨⟨_, rfl⟩, ?_⟩ | refine Or.inl ⟨_, _, _, rfl, rfl, rfl, ?_⟩ | refine ⟨_, _, _, rfl, rfl, ?_⟩)
  rw [List.map_map]
  refine ⟨by simp; omega, lc_flt T.str (fun o => decide (x = f) || decide (o = f)) (fun o => (false, .str o)) (oth ms x) (fun c hc Kb k1 k2 => ?_) ?_⟩
  · have hcm := (List.mem_filter.mp hc).1
    have hcx : c ≠ x := by simpa using (List.mem_filter.mp hc).2
    repeat (first | refine ⟨_, rfl, rfl, List.nodup_nil, ?_⟩ | refine ⟨_, rfl, Nat.le_of_ble_eq_true rfl, ?_⟩ | refine ⟨_, rfl, ?_⟩ | refine ⟨_, _, rfl, rfl, ?_⟩ | refine ⟨_, _, _, rfl, rfl, by decide +kernel, ?_⟩ | refine Or.inl ⟨_, rfl, ?_⟩ | refine Or.inr ⟨_, rfl, ?_⟩ | refine Or.inl ⟨_, _, rfl, rfl, ?_⟩ | refine ⟨_, _, rfl, ?_⟩ | refine ⟨rfl, ?_⟩ | refine ⟨⟨_, rfl⟩, ?_⟩ | refine Or.inl ⟨_, _, _, rfl, rfl, rfl, ?_⟩ | refine ⟨_, _, _, rfl, rfl, ?_⟩)
    refine ⟨_, teq_str (hg.good x hg.hx).ok (hg.good f hg.hf).ok, ?_⟩
    repeat (first | refine ⟨_, rfl, rfl, List.nodup_nil, ?_⟩ | refine ⟨_, rfl, Nat.le_of_ble_eq_true rfl, ?_⟩ | refine ⟨_, rfl, ?_⟩ | refine ⟨_, _, rfl, rfl, ?_⟩ | refine ⟨_, _, _, rfl, rfl, by decide +kernel, ?_⟩ | refine Or.inl ⟨_, rfl, ?_⟩ | refine Or.inr ⟨_, rfl, ?_⟩ | refine Or.inl ⟨_, _, rfl, rfl, ?_⟩ | refine ⟨_, _, rfl, ?_⟩ | refine ⟨rfl, ?_⟩ | refine ⟨⟨_, rfl⟩, ?_⟩ | refine Or.inl ⟨_, _, _, rfl, rfl, rfl, ?_⟩ | refine ⟨_, _, _, rfl, rfl, ?_⟩)
    by_cases h : x = f
    · refine iteTq (by simp [h]) ?_
      repeat (first | refine ⟨_, rfl, rfl, List.nodup_nil, ?_⟩ | refine ⟨_, rfl, Nat.le_of_ble_eq_true rfl, ?_⟩ | refine ⟨_, rfl, ?_⟩ | refine ⟨_, _, rfl, rfl, ?_⟩ | refine ⟨_, _, _, rfl, rfl, by decide +kernel, ?_⟩ | refine Or.inl ⟨_, rfl, ?_⟩ | refine Or.inr ⟨_, rfl, ?_⟩ | refine Or.inl ⟨_, _, rfl, rfl, ?_⟩ | refine ⟨_, _, rfl, ?_⟩ | refine ⟨rfl, ?_⟩ | refine ⟨⟨_, rfl⟩, ?_⟩ | refine Or.inl ⟨_, _, _, rfl, rfl, rfl, ?_⟩ | refine ⟨_, _, _, rfl, rfl, ?_⟩)
      exact k1 (by simp [h])
    refine iteFq (by simp [h]) ?_
    repeat (first | refine ⟨_, rfl, rfl, List.nodup_nil, ?_⟩ | refine ⟨_, rfl, Nat.le_of_ble_eq_true rfl, ?_⟩ | refine ⟨_, rfl, ?_⟩ | refine ⟨_, _, rfl, rfl, ?_⟩ | refine ⟨_, _, _, rfl, rfl, by decide +kernel, ?_⟩ | refine Or.inl ⟨_, rfl, ?_⟩ | refine Or.inr ⟨_, rfl, ?_⟩ | refine Or.inl ⟨_, _, rfl, rfl, ?_⟩ | refine ⟨_, _, rfl, ?_⟩ | refine ⟨rfl, ?_⟩ | refine ⟨⟨_, rfl⟩, ?_⟩ | refine Or.inl ⟨_, _, _, rfl, rfl, rfl, ?_⟩ | refine ⟨_, _, _, rfl, rfl, ?_⟩)
    refine ⟨by decide +kernel, ?_⟩
    repeat (first | refine ⟨_, rfl, rfl, List.nodup_nil, ?_⟩ | refine ⟨_, rfl, Nat.le_of_ble_eq_true rfl, ?_⟩ | refine ⟨_, rfl, ?_⟩ | refine ⟨_, _, rfl, rfl, ?_⟩ | refine ⟨_, _, _, rfl, rfl, by decide +kernel, ?_⟩ | refine Or.inl ⟨_, rfl, ?_⟩ | refine Or.inr ⟨_, rfl, ?_⟩ | refine Or.inl ⟨_, _, rfl, rfl, ?_⟩ | refine ⟨_, _, rfl, ?_⟩ | refine ⟨rfl, ?_⟩ | refine ⟨⟨_, rfl⟩, ?_⟩ | refine Or.inl ⟨_, _, _, rfl, rfl, rfl, ?_⟩ | refine ⟨_, _, _, rfl, rfl, ?_⟩)
    refine ⟨_, ms, f, x, laps, c, rfl, hg.good, hg.le, hg.hf, hg.hx, hcm, fun e => h e.symm, hcx, hg.h1, hg.h5, ?_⟩
    repeat (first | refine ⟨_, rfl, rfl, List.nodup_nil, ?_⟩ | refine ⟨_, rfl, Nat.le_of_ble_eq_true rfl, ?_⟩ | refine ⟨_, rfl, ?_⟩ | refine ⟨_, _, rfl, rfl, ?_⟩ | refine ⟨_, _, _, rfl, rfl, by decide +kernel, ?_⟩ | refine Or.inl ⟨_, rfl, ?_⟩ | refine Or.inr ⟨_, rfl, ?_⟩ | refine Or.inl ⟨_, _, rfl, rfl, ?_⟩ | refine ⟨_, _, rfl, ?_⟩ | refine ⟨rfl, ?_⟩ | refine ⟨⟨_, rfl⟩, ?_⟩ | refine Or.inl ⟨_, _, _, rfl, rfl, rfl, ?_⟩ | refine ⟨_, _, _, rfl, rfl, ?_⟩)
    by_cases h2 : c = f
    · refine iteTq (by simp [h2]) ?_
      repeat (first | refine ⟨_, rfl, rfl, List.nodup_nil, ?_⟩ | refine ⟨_, rfl, Nat.le_of_ble_eq_true rfl, ?_⟩ | refine ⟨_, rfl, ?_⟩ | refine ⟨_, _, rfl, rfl, ?_⟩ | refine ⟨_, _, _, rfl, rfl, by decide +kernel, ?_⟩ | refine Or.inl ⟨_, rfl, ?_⟩ | refine Or.inr ⟨_, rfl, ?_⟩ | refine Or.inl ⟨_, _, rfl, rfl, ?_⟩ | refine ⟨_, _, rfl, ?_⟩ | refine ⟨rfl, ?_⟩ | refine ⟨⟨_, rfl⟩, ?_⟩ | refine Or.inl ⟨_, _, _, rfl, rfl, rfl, ?_⟩ | refine ⟨_, _, _, rfl, rfl, ?_⟩)
      exact k1 (by simp [h2])
    · refine iteFq (by simp [h2]) ?_
      repeat (first | refine ⟨_, rfl, rfl, List.nodup_nil, ?_⟩ | refine ⟨_, rfl, Nat.le_of_ble_eq_true rfl, ?_⟩ | refine ⟨_, rfl, ?_⟩ | refine ⟨_, _, rfl, rfl, ?_⟩ | refine ⟨_, _, _, rfl, rfl, by decide +kernel, ?_⟩ | refine Or.inl ⟨_, rfl, ?_⟩ | refine Or.inr ⟨_, rfl, ?_⟩ | refine Or.inl ⟨_, _, rfl, rfl, ?_⟩ | refine ⟨_, _, rfl, ?_⟩ | refine ⟨rfl, ?_⟩ | refine ⟨⟨_, rfl⟩, ?_⟩ | refine Or.inl ⟨_, _, _, rfl, rfl, rfl, ?_⟩ | refine ⟨_, _, _, rfl, rfl, ?_⟩)
      exact k2 (by simp [h, h2])
  have e3 : (oth ms x).filter (fun o => decide (x = f) || decide (o = f)) = stOf ms f x := by
    unfold stOf
    by_cases h : f = x
    · subst h
      rw [if_pos rfl]
      simp
    · rw [if_neg h]
      have h' : ¬ x = f := fun e => h e.symm
      simp only [h', decide_false, Bool.false_or]
      have hfo : f ∈ oth ms x := List.mem_filter.mpr ⟨hg.hf, by simpa using h⟩
      have nd : (oth ms x).Nodup := hg.nd.filter _
      revert hfo nd
      generalize oth ms x = l
      intro hfo nd
      induction l with
      | nil => simp at hfo
      | cons a l ih =>
        obtain ⟨n1, n2⟩ := List.nodup_cons.mp nd
        by_cases e : a = f
        · subst e
          rw [List.filter_cons_of_pos (by simp)]
          congr 1
          rw [List.filter_eq_nil_iff]
          intro z hz
          simp
          intro e; subst e; exact n1 hz
        · rw [List.filter_cons_of_neg (by simpa using e)]
          rcases List.mem_cons.mp hfo with z | z
          · exact absurd z.symm e
          · exact ih z n2
  rw [e3, mkR_map]
  refine ⟨by simp [okO, T.isAv], by simp [okO, T.isAv], ⟨_, rfl⟩, _, _, rfl, by decide, ?_⟩
  exact q
def k_Lost_next_names (C_Lost : Addr) : CT := fun us Q => ∃ ms f x laps c b, us = [lostT C_Lost ms f x laps, bagN (oth ms x) c, .bl b] ∧ LawOk ms f x laps ∧ Q (true, strsT ((oth ms x).filter fun o => decide (0 < c o) && (!b || decide (o ∈ stOf ms f x))))
theorem ok_Lost_next_names {f : Addr} {fd : FuncData} {C_Lost : Addr} (B : Blt mg) (TX : Txt K mg C_Lost)  (F : Fun K "next_names" "Lost.next_names" s_Lost_next_names f fd) : FnOk P w K mg base CX0 1 f fd ["self", "bag", "is_start"] (spOf K 3 (rc (k_Lost_next_names C_Lost))) := by
  refine fn_r (k := 0) F sc_Lost_next_names rfl fun cdv A outer s H E hr => ⟨_, (qss_one (qs_ret (q_lc (own := [("one", 3)]) rfl sc_Lost_next_names.nd (qi_keys (qe_var (pv 1))) (blkOk_by (N := N_Lost_next_names) (sc := defScope s_Lost_next_names) (by decide +kernel)) (fun _ _ _ _ _ => (gq_name (pg_name (i := 3) sc_Lost_next_names.nd rfl (by first | exact Or.inl rfl | exact Or.inr rfl)))) (fun _ _ _ _ _ => (qts_one (QW.qt (qw_and (qt_cmp qc_gt (q_dget (Room.hu1 hr) (qe_var (pv 1)) (qe_var (pv 3)) (fun _ _ => rfl)) (qe_c pe_int) (by rfl)) (qw_and1 (QW.qt (qw_or (qt_not (qt_val (qe_var (pv 2)))) (qw_or1 (qt_cmp qc_in (qe_var (pv 3)) (q_fld (qe_var (pv 0)) TX.cls_Lost TX.na_Lost_starts) (by rfl)))))))))) (fun _ _ _ _ _ => (qe_var (pv 3)))))), ?_⟩
  -- names: 0 self, 1 bag, 2 is_start, 3 one
  rintro us Q hl ⟨ms, f, x, laps, c, b, rfl, hg, q⟩
  have hlen : (oth ms x).length ≤ 12 := Nat.le_trans (List.length_filter_le _ _) hg.le
  repeat (first | refine ⟨_, rfl, rfl, List.nodup_nil, ?_⟩ | refine ⟨_, rfl, Nat.le_of_ble_eq_true rfl, ?_⟩ | refine ⟨_, rfl, ?_⟩ | refine ⟨_, _, rfl, rfl, ?_⟩ | refine ⟨_, _, _, rfl, rfl, by decide +kernel, ?_⟩ | refine Or.inl ⟨_, rfl, ?_⟩ | refine Or.inr ⟨_, rfl, ?_⟩ | refine Or.inl ⟨_, _, rfl, rfl, ?_⟩ | refine ⟨_, _, rfl, ?_⟩ | refine ⟨rfl, ?_⟩ | refine ⟨⟨_, rfl⟩, ?_⟩ | refine Or.inl ⟨_, _, _, rfl, rfl, rfl, ?_⟩ | refine ⟨_, _, _, rfl, rfl, ?_⟩)
  rw [List.map_map]
  refine ⟨by simp; omega, lc_flt T.str (fun o => decide (0 < c o) && (!b || decide (o ∈ stOf ms f x))) (fun o => (false, .str o)) (oth ms x) (fun o ho Kb k1 k2 => ?_) ?_⟩
  · repeat (first | refine ⟨_, rfl, rfl, List.nodup_nil, ?_⟩ | refine ⟨_, rfl, Nat.le_of_ble_eq_true rfl, ?_⟩ | refine ⟨_, rfl, ?_⟩ | refine ⟨_, _, rfl, rfl, ?_⟩ | refine ⟨_, _, _, rfl, rfl, by decide +kernel, ?_⟩ | refine Or.inl ⟨_, rfl, ?_⟩ | refine Or.inr ⟨_, rfl, ?_⟩ | refine Or.inl ⟨_, _, rfl, rfl, ?_⟩ | refine ⟨_, _, rfl, ?_⟩ | refine ⟨rfl, ?_⟩ | refine ⟨⟨_, rfl⟩, ?_⟩ | refine Or.inl ⟨_, _, _, rfl, rfl, rfl, ?_⟩ | refine ⟨_, _, _, rfl, rfl, ?_⟩)
    refine ⟨_, _, _, _, rfl, rfl, by rw [dget_map, if_pos ho], ?_⟩
    repeat (first | refine ⟨_, rfl, rfl, List.nodup_nil, ?_⟩ | refine ⟨_, rfl, Nat.le_of_ble_eq_true rfl, ?_⟩ | refine ⟨_, rfl, ?_⟩ | refine ⟨_, _, rfl, rfl, ?_⟩ | refine ⟨_, _, _, rfl, rfl, by decide +kernel, ?_⟩ | refine Or.inl ⟨_, rfl, ?_⟩ | refine Or.inr ⟨_, rfl, ?_⟩ | refine Or.inl ⟨_, _, rfl, rfl, ?_⟩ | refine ⟨_, _, rfl, ?_⟩ | refine ⟨rfl, ?_⟩ | refine ⟨⟨_, rfl⟩, ?_⟩ | refine Or.inl ⟨_, _, _, rfl, rfl, rfl, ?_⟩ | refine ⟨_, _, _, rfl, rfl, ?_⟩)
    by_cases h : 0 < c o
    · refine iteTq (by simp; omega) ?_
      repeat (first | refine ⟨_, rfl, rfl, List.nodup_nil, ?_⟩ | refine ⟨_, rfl, Nat.le_of_ble_eq_true rfl, ?_⟩ | refine ⟨_, rfl, ?_⟩ | refine ⟨_, _, rfl, rfl, ?_⟩ | refine ⟨_, _, _, rfl, rfl, by decide +kernel, ?_⟩ | refine Or.inl ⟨_, rfl, ?_⟩ | refine Or.inr ⟨_, rfl, ?_⟩ | refine Or.inl ⟨_, _, rfl, rfl, ?_⟩ | refine ⟨_, _, rfl, ?_⟩ | refine ⟨rfl, ?_⟩ | refine ⟨⟨_, rfl⟩, ?_⟩ | refine Or.inl ⟨_, _, _, rfl, rfl, rfl, ?_⟩ | refine ⟨_, _, _, rfl, rfl, ?_⟩)
      cases b with
      | false =>
        refine iteTq rfl ?_
        repeat (first | refine ⟨_, rfl, rfl, List.nodup_nil, ?_⟩ | refine ⟨_, rfl, Nat.le_of_ble_eq_true rfl, ?_⟩ | refine ⟨_, rfl, ?_⟩ | refine ⟨_, _, rfl, rfl, ?_⟩ | refine ⟨_, _, _, rfl, rfl, by decide +kernel, ?_⟩ | refine Or.inl ⟨_, rfl, ?_⟩ | refine Or.inr ⟨_, rfl, ?_⟩ | refine Or.inl ⟨_, _, rfl, rfl, ?_⟩ | refine ⟨_, _, rfl, ?_⟩ | refine ⟨rfl, ?_⟩ | refine ⟨⟨_, rfl⟩, ?_⟩ | refine Or.inl ⟨_, _, _, rfl, rfl, rfl, ?_⟩ | refine ⟨_, _, _, rfl, rfl, ?_⟩)
        exact k1 (by simp [h])
      | true =>
        refine iteFq rfl ?_
        repeat (first | refine ⟨_, rfl, rfl, List.nodup_nil, ?_⟩ | refine ⟨_, rfl, Nat.le_of_ble_eq_true rfl, ?_⟩ | refine ⟨_, rfl, ?_⟩ | refine ⟨_, _, rfl, rfl, ?_⟩ | refine ⟨_, _, _, rfl, rfl, by decide +kernel, ?_⟩ | refine Or.inl ⟨_, rfl, ?_⟩ | refine Or.inr ⟨_, rfl, ?_⟩ | refine Or.inl ⟨_, _, rfl, rfl, ?_⟩ | refine ⟨_, _, rfl, ?_⟩ | refine ⟨rfl, ?_⟩ | refine ⟨⟨_, rfl⟩, ?_⟩ | refine Or.inl ⟨_, _, _, rfl, rfl, rfl, ?_⟩ | refine ⟨_, _, _, rfl, rfl, ?_⟩)
        refine ⟨_, tin_strs o (stOf ms f x), ?_⟩
        repeat (first | refine ⟨_, rfl, rfl, List.nodup_nil, ?_⟩ | refine ⟨_, rfl, Nat.le_of_ble_eq_true rfl, ?_⟩ | refine ⟨_, rfl, ?_⟩ | refine ⟨_, _, rfl, rfl, ?_⟩ | refine ⟨_, _, _, rfl, rfl, by decide +kernel, ?_⟩ | refine Or.inl ⟨_, rfl, ?_⟩ | refine Or.inr ⟨_, rfl, ?_⟩ | refine Or.inl ⟨_, _, rfl, rfl, ?_⟩ | refine ⟨_, _, rfl, ?_⟩ | refine ⟨rfl, ?_⟩ | refine ⟨⟨_, rfl⟩, ?_⟩ | refine Or.inl ⟨_, _, _, rfl, rfl, rfl, ?_⟩ | refine ⟨_, _, _, rfl, rfl, ?_⟩)
        by_cases h2 : o ∈ stOf ms f x
        · refine iteTq (by simp [h2]) ?_
          repeat (first | refine ⟨_, rfl, rfl, List.nodup_nil, ?_⟩ | refine ⟨_, rfl, Nat.le_of_ble_eq_true rfl, ?_⟩ | refine ⟨_, rfl, ?_⟩ | refine ⟨_, _, rfl, rfl, ?_⟩ | refine ⟨_, _, _, rfl, rfl, by decide +kernel, ?_⟩ | refine Or.inl ⟨_, rfl, ?_⟩ | refine Or.inr ⟨_, rfl, ?_⟩ | refine Or.inl ⟨_, _, rfl, rfl, ?_⟩ | refine ⟨_, _, rfl, ?_⟩ | refine ⟨rfl, ?_⟩ | refine ⟨⟨_, rfl⟩, ?_⟩ | refine Or.inl ⟨_, _, _, rfl, rfl, rfl, ?_⟩ | refine ⟨_, _, _, rfl, rfl, ?_⟩)
          exact k1 (by simp [h, h2])
        · refine iteFq (by simp [h2]) ?_
          exact k2 (by simp [h2])
    · refine iteFq (by simp; omega) ?_
      exact k2 (by simp [h])
  · rw [mkR_map]
    refine qo2 q ?_
    simp [okO, T.isAv, strsT]
def k_Lost_without (C_Lost : Addr) : CT := fun us Q => ∃ s ns c o, us = [s, bagN ns c, .str o] ∧ ns.Nodup ∧ (∀ n ∈ ns, goodN n) ∧ ns.length ≤ 12 ∧ o ∈ ns ∧ 0 < c o ∧ Q (true, bagN ns (dec c o))
theorem ok_Lost_without {f : Addr} {fd : FuncData} {C_Lost : Addr} (B : Blt mg) (TX : Txt K mg C_Lost)  (F : Fun K "without" "Lost.without" s_Lost_without f fd) : FnOk P w K mg base CX0 1 f fd ["self", "bag", "one"] (spOf K 3 (rc (k_Lost_without C_Lost))) := by
  refine fn_r (k := 0) F sc_Lost_without rfl fun cdv A outer s H E hr => ⟨_, (qss_one (qs_ret (q_dc (own := [("name", 3), ("many", 4)]) rfl sc_Lost_without.nd (qi_items (qe_var (pv 1))) (blkOk_by (N := N_Lost_without) (sc := defScope s_Lost_without) (by decide +kernel)) (fun _ _ _ _ _ => (gq_tup (n := 2) rfl (gqs_cons (gq_name (pg_name (i := 3) sc_Lost_without.nd rfl (by first | exact Or.inl rfl | exact Or.inr rfl))) (gqs_cons (gq_name (pg_name (i := 4) sc_Lost_without.nd rfl (by first | exact Or.inl rfl | exact Or.inr rfl))) gqs_nil)))) (fun _ _ _ _ _ => qts_nil) (fun _ _ _ _ _ => (qe_var (pv 3))) (fun _ _ _ _ _ => (q_sub (qe_var (pv 4)) (q_int rfl B.int (qa_cons (q_cmp (qc_eq (Room.hu hr)) (qe_var (pv 3)) (qe_var (pv 2)) (by rfl)) qa_nil))))))), ?_⟩
  -- names: 0 self, 1 bag, 2 one, 3 name, 4 many
  rintro us Q hl ⟨sf, ns, c, o, rfl, nd, hg, hn, ho, h0, q⟩
  repeat (first | refine ⟨_, rfl, rfl, List.nodup_nil, ?_⟩ | refine ⟨_, rfl, Nat.le_of_ble_eq_true rfl, ?_⟩ | refine ⟨_, rfl, ?_⟩ | refine ⟨_, _, rfl, rfl, ?_⟩ | refine ⟨_, _, _, rfl, rfl, by decide +kernel, ?_⟩ | refine Or.inl ⟨_, rfl, ?_⟩ | refine Or.inr ⟨_, rfl, ?_⟩ | refine Or.inl ⟨_, _, rfl, rfl, ?_⟩ | refine ⟨_, _, rfl, ?_⟩ | refine ⟨rfl, ?_⟩ | refine ⟨⟨_, rfl⟩, ?_⟩ | refine Or.inl ⟨_, _, _, rfl, rfl, rfl, ?_⟩ | refine ⟨_, _, _, rfl, rfl, ?_⟩)
  rw [show zipT ((ns.map (Sum.inr : Str → Key)).map keyT) (ns.map fun n => T.int (c n : Int)) = ns.map fun n => T.tup [.str n, T.int (c n : Int)] by rw [List.map_map, zipT_map, List.zip_eq_zipWith]; simp [List.zipWith_self, keyT, kV, Function.comp_def]]
  refine ⟨by simp; omega, dc_map (fun n => T.tup [.str n, T.int (c n : Int)]) Sum.inr (fun n => (false, .int (dec c o n : Nat))) ns (fun n hn Kb hk => ?_) (nodup_inr nd) ?_⟩
  · repeat (first | refine ⟨_, rfl, rfl, List.nodup_nil, ?_⟩ | refine ⟨_, rfl, Nat.le_of_ble_eq_true rfl, ?_⟩ | refine ⟨_, rfl, ?_⟩ | refine ⟨_, _, rfl, rfl, ?_⟩ | refine ⟨_, _, _, rfl, rfl, by decide +kernel, ?_⟩ | refine Or.inl ⟨_, rfl, ?_⟩ | refine Or.inr ⟨_, rfl, ?_⟩ | refine Or.inl ⟨_, _, rfl, rfl, ?_⟩ | refine ⟨_, _, rfl, ?_⟩ | refine ⟨rfl, ?_⟩ | refine ⟨⟨_, rfl⟩, ?_⟩ | refine Or.inl ⟨_, _, _, rfl, rfl, rfl, ?_⟩ | refine ⟨_, _, _, rfl, rfl, ?_⟩)
    refine ⟨_, teq_str (hg n hn).ok (hg o ho).ok, ?_⟩
    repeat (first | refine ⟨_, rfl, rfl, List.nodup_nil, ?_⟩ | refine ⟨_, rfl, Nat.le_of_ble_eq_true rfl, ?_⟩ | refine ⟨_, rfl, ?_⟩ | refine ⟨_, _, rfl, rfl, ?_⟩ | refine ⟨_, _, _, rfl, rfl, by decide +kernel, ?_⟩ | refine Or.inl ⟨_, rfl, ?_⟩ | refine Or.inr ⟨_, rfl, ?_⟩ | refine Or.inl ⟨_, _, rfl, rfl, ?_⟩ | refine ⟨_, _, rfl, ?_⟩ | refine ⟨rfl, ?_⟩ | refine ⟨⟨_, rfl⟩, ?_⟩ | refine Or.inl ⟨_, _, _, rfl, rfl, rfl, ?_⟩ | refine ⟨_, _, _, rfl, rfl, ?_⟩)
    have e1 : (c n : Int) - (if decide (n = o) = true then 1 else 0) = ((dec c o n : Nat) : Int) := by
      unfold dec
      by_cases h : n = o
      · subst h; simp; omega
      · simp [h]
    exact cast (congrArg (fun z => Kb (Sum.inr n) (false, .int z) _) e1.symm) hk
  · exact qo2 q (by simp [bagN, dmap, Function.comp_def, okO, T.isAv])
theorem bagN_ints (ns : List Str) (c : Str → Nat) : bagN ns c = .dct (ns.map Sum.inr) ((ns.map fun n => (c n : Int)).map T.int) := by simp [bagN, dmap, List.map_map, Function.comp_def]
theorem bagN_sum (ns : List Str) (c : Str → Nat) : (ns.map fun n => (c n : Int)).sum = (tot ns c : Int) := by
  unfold tot
  induction ns with
  | nil => rfl
  | cons a l ih => simp [ih]
/-- lists from a bag, not at the start -/
def frm (ns : List Str) (c : Str → Nat) : Nat := M ns c * (if tot ns c = 0 then 1 else 2)
def k_Lost_lists_fromF (C_Lost : Addr) : CT := fun us Q => ∃ s ns c, us = [s, bagN ns c, .bl false] ∧ tot ns c ≤ 60 ∧ Q (false, .int (frm ns c : Nat))
theorem ok_Lost_lists_fromF {f : Addr} {fd : FuncData} {C_Lost : Addr} (B : Blt mg) (TX : Txt K mg C_Lost) (G_arrangements : Callee P w K mg base "arrangements" 1 1 (rc k_arrangements)) (F : Fun K "lists_from" "Lost.lists_from" s_Lost_lists_from f fd) : FnOk P w K mg base CX0 2 f fd ["self", "bag", "is_start"] (spOf K 3 (rc (k_Lost_lists_fromF C_Lost))) := by
  refine fn_r (k := 1) F sc_Lost_lists_from rfl fun cdv A outer s H E hr => ⟨_, (qss_cons (qs_if (qt_val (qe_var (pv 2))) (qss_one qs_never) qss_nil)
      (qss_one (qs_ret (q_mul (q_callC G_arrangements hr (by decide) rfl (qa_cons (qe_var (pv 1)) qa_nil)) (q_sub (qe_c pe_int) (q_int rfl B.int (qa_cons (q_cmp (qc_eq (Room.hu hr)) (q_sumV rfl rfl B.sum (qe_var (pv 1))) (qe_c pe_int) (by rfl)) qa_nil))))))), ?_⟩
  -- names: 0 self, 1 bag, 2 is_start, 3 one
  rintro us Q hl ⟨sf, ns, c, rfl, ht, q⟩
  repeat (first | refine ⟨_, rfl, rfl, List.nodup_nil, ?_⟩ | refine ⟨_, rfl, Nat.le_of_ble_eq_true rfl, ?_⟩ | refine ⟨_, rfl, ?_⟩ | refine ⟨_, _, rfl, rfl, ?_⟩ | refine ⟨_, _, _, rfl, rfl, by decide +kernel, ?_⟩ | refine Or.inl ⟨_, rfl, ?_⟩ | refine Or.inr ⟨_, rfl, ?_⟩ | refine Or.inl ⟨_, _, rfl, rfl, ?_⟩ | refine ⟨_, _, rfl, ?_⟩ | refine ⟨rfl, ?_⟩ | refine ⟨⟨_, rfl⟩, ?_⟩ | refine Or.inl ⟨_, _, _, rfl, rfl, rfl, ?_⟩ | refine ⟨_, _, _, rfl, rfl, ?_⟩)
  refine ⟨ht, ?_⟩
  refine ⟨_, rfl, _, _, bagN_ints ns c, ?_⟩
  rw [bagN_sum]
  repeat (first | refine ⟨_, rfl, rfl, List.nodup_nil, ?_⟩ | refine ⟨_, rfl, Nat.le_of_ble_eq_true rfl, ?_⟩ | refine ⟨_, rfl, ?_⟩ | refine ⟨_, _, rfl, rfl, ?_⟩ | refine ⟨_, _, _, rfl, rfl, by decide +kernel, ?_⟩ | refine Or.inl ⟨_, rfl, ?_⟩ | refine Or.inr ⟨_, rfl, ?_⟩ | refine Or.inl ⟨_, _, rfl, rfl, ?_⟩ | refine ⟨_, _, rfl, ?_⟩ | refine ⟨rfl, ?_⟩ | refine ⟨⟨_, rfl⟩, ?_⟩ | refine Or.inl ⟨_, _, _, rfl, rfl, rfl, ?_⟩ | refine ⟨_, _, _, rfl, rfl, ?_⟩)
  have hM := log_fac (n := tot ns c) (m := M ns c) (by omega) (M_le ns c)
  have e1 : (PyData.int (tot ns c : Int)).eqv (.int 0) = decide (tot ns c = 0) := by
    by_cases h : tot ns c = 0 <;> simp [PyData.eqv, h]
  rw [e1]
  by_cases h : tot ns c = 0
  · refine ⟨mulW (M ns c) 1 rfl (by simp [h]) hM (by decide +kernel), ?_⟩
    exact qo2 q (by simp [frm, h])
  · refine ⟨mulW (M ns c) 2 rfl (by simp [h]) hM (by decide +kernel), ?_⟩
    refine qo2 q ?_
    simp [frm, h]
def k_Lost_after (C_Lost : Addr) : CT := fun us Q => ∃ ms f x laps c o, us = [lostT C_Lost ms f x laps, bagN (oth ms x) c, .str o] ∧ LawOk ms f x laps ∧ o ∈ oth ms x ∧ 0 < c o ∧ tot (oth ms x) c ≤ 60 ∧ Q (false, .int (frm (oth ms x) (dec c o) : Nat))
theorem ok_Lost_after {f : Addr} {fd : FuncData} {C_Lost : Addr} (B : Blt mg) (TX : Txt K mg C_Lost) (G_Lost_lists_from : CalleeM P w K mg base C_Lost "lists_from" 2 3 (rc (k_Lost_lists_fromF C_Lost))) (G_Lost_without : CalleeM P w K mg base C_Lost "without" 1 3 (rc (k_Lost_without C_Lost))) (F : Fun K "after" "Lost.after" s_Lost_after f fd) : FnOk P w K mg base CX0 3 f fd ["self", "bag", "one"] (spOf K 3 (rc (k_Lost_after C_Lost))) := by
  refine fn_r (k := 2) F sc_Lost_after rfl fun cdv A outer s H E hr => ⟨_, (qss_one (qs_ret (q_methC G_Lost_lists_from TX.cls_Lost hr (qe_var (pv 0)) (qa_cons (q_methC G_Lost_without TX.cls_Lost hr (qe_var (pv 0)) (qa_cons (qe_var (pv 1)) (qa_cons (qe_var (pv 2)) qa_nil)) (by decide)) (qa_cons (qe_c pe_bl) qa_nil)) (by decide)))), ?_⟩
  -- names: 0 self, 1 bag, 2 one
  rintro us Q hl ⟨ms, f, x, laps, c, o, rfl, hg, ho, h0, ht, q⟩
  have nd : (oth ms x).Nodup := hg.nd.filter _
  have hlen : (oth ms x).length ≤ 12 := Nat.le_trans (List.length_filter_le _ _) hg.le
  have := tot_dec nd ho h0
  repeat (first | refine ⟨_, rfl, rfl, List.nodup_nil, ?_⟩ | refine ⟨_, rfl, Nat.le_of_ble_eq_true rfl, ?_⟩ | refine ⟨_, rfl, ?_⟩ | refine ⟨_, _, rfl, rfl, ?_⟩ | refine ⟨_, _, _, rfl, rfl, by decide +kernel, ?_⟩ | refine Or.inl ⟨_, rfl, ?_⟩ | refine Or.inr ⟨_, rfl, ?_⟩ | refine Or.inl ⟨_, _, rfl, rfl, ?_⟩ | refine ⟨_, _, rfl, ?_⟩ | refine ⟨rfl, ?_⟩ | refine ⟨⟨_, rfl⟩, ?_⟩ | refine Or.inl ⟨_, _, _, rfl, rfl, rfl, ?_⟩ | refine ⟨_, _, _, rfl, rfl, ?_⟩)
  refine ⟨by decide +kernel, ?_⟩
  repeat (first | refine ⟨_, rfl, rfl, List.nodup_nil, ?_⟩ | refine ⟨_, rfl, Nat.le_of_ble_eq_true rfl, ?_⟩ | refine ⟨_, rfl, ?_⟩ | refine ⟨_, _, rfl, rfl, ?_⟩ | refine ⟨_, _, _, rfl, rfl, by decide +kernel, ?_⟩ | refine Or.inl ⟨_, rfl, ?_⟩ | refine Or.inr ⟨_, rfl, ?_⟩ | refine Or.inl ⟨_, _, rfl, rfl, ?_⟩ | refine ⟨_, _, rfl, ?_⟩ | refine ⟨rfl, ?_⟩ | refine ⟨⟨_, rfl⟩, ?_⟩ | refine Or.inl ⟨_, _, _, rfl, rfl, rfl, ?_⟩ | refine ⟨_, _, _, rfl, rfl, ?_⟩)
  refine ⟨by decide +kernel, ?_⟩
  repeat (first | refine ⟨_, rfl, rfl, List.nodup_nil, ?_⟩ | refine ⟨_, rfl, Nat.le_of_ble_eq_true rfl, ?_⟩ | refine ⟨_, rfl, ?_⟩ | refine ⟨_, _, rfl, rfl, ?_⟩ | refine ⟨_, _, _, rfl, rfl, by decide +kernel, ?_⟩ | refine Or.inl ⟨_, rfl, ?_⟩ | refine Or.inr ⟨_, rfl, ?_⟩ | refine Or.inl ⟨_, _, rfl, rfl, ?_⟩ | refine ⟨_, _, rfl, ?_⟩ | refine ⟨rfl, ?_⟩ | refine ⟨⟨_, rfl⟩, ?_⟩ | refine Or.inl ⟨_, _, _, rfl, rfl, rfl, ?_⟩ | refine ⟨_, _, _, rfl, rfl, ?_⟩)
  refine ⟨_, _, c, o, rfl, nd, fun n hn => hg.good n (List.mem_filter.mp hn).1, hlen, ho, h0, ?_⟩
  repeat (first | refine ⟨_, rfl, rfl, List.nodup_nil, ?_⟩ | refine ⟨_, rfl, Nat.le_of_ble_eq_true rfl, ?_⟩ | refine ⟨_, rfl, ?_⟩ | refine ⟨_, _, rfl, rfl, ?_⟩ | refine ⟨_, _, _, rfl, rfl, by decide +kernel, ?_⟩ | refine Or.inl ⟨_, rfl, ?_⟩ | refine Or.inr ⟨_, rfl, ?_⟩ | refine Or.inl ⟨_, _, rfl, rfl, ?_⟩ | refine ⟨_, _, rfl, ?_⟩ | refine ⟨rfl, ?_⟩ | refine ⟨⟨_, rfl⟩, ?_⟩ | refine Or.inl ⟨_, _, _, rfl, rfl, rfl, ?_⟩ | refine ⟨_, _, _, rfl, rfl, ?_⟩)
  exact ⟨_, _, dec c o, rfl, by omega, q⟩
theorem count_nd {a : Str} : ∀ {l : List Str}, l.Nodup → l.count a = if a ∈ l then 1 else 0
  | [], _ => by simp
  | b :: l, h => by
    obtain ⟨h1, h2⟩ := List.nodup_cons.mp h
    rw [List.count_cons, count_nd h2]
    by_cases e : b = a
    · subst e; simp [h1]
    · have e' : ¬ a = b := fun z => e z.symm
      simp [e, e']
theorem oth_len {ms : List Str} {x : Str} (nd : ms.Nodup) (hx : x ∈ ms) : (oth ms x).length + 1 = ms.length := by
  have : ∀ l : List Str, (oth l x).length + l.count x = l.length := by
    intro l
    induction l with
    | nil => rfl
    | cons b l ih =>
      unfold oth at ih ⊢
      by_cases e : b = x
      · subst e
        rw [List.filter_cons_of_neg (by simp), List.count_cons_self, List.length_cons]; omega
      · rw [List.filter_cons_of_pos (by simpa using e), List.count_cons_of_ne (by simpa using e), List.length_cons, List.length_cons]; omega
  have h := this ms
  rw [count_nd nd, if_pos hx] at h
  exact h
theorem tot_c0 (f : Str) (laps : Nat) : ∀ ns : List Str, tot ns (c0 f laps) = ns.length * laps + ns.count f
  | [] => by simp [tot]
  | n :: ns => by
    have ih := tot_c0 f laps ns
    unfold tot at ih ⊢
    rw [List.map_cons, List.sum_cons, ih, List.length_cons, Nat.succ_mul, List.count_cons]
    unfold c0
    by_cases h : n = f
    · simp [h]; omega
    · simp [h]; omega
theorem LawOk.olen {ms : List Str} {f x : Str} {laps : Nat} (h : LawOk ms f x laps) : 2 ≤ (oth ms x).length ∧ (oth ms x).length ≤ 11 := by
  have := oth_len h.nd h.hx
  have := h.h3
  have := h.le
  omega
theorem LawOk.ond {ms : List Str} {f x : Str} {laps : Nat} (h : LawOk ms f x laps) : (oth ms x).Nodup := h.nd.filter _
theorem LawOk.tot {ms : List Str} {f x : Str} {laps : Nat} (h : LawOk ms f x laps) : 2 ≤ Q.tot (oth ms x) (c0 f laps) ∧ Q.tot (oth ms x) (c0 f laps) ≤ 56 := by
  rw [tot_c0]
  have h1 := h.olen
  have h2 := count_nd (a := f) h.ond
  have h3 := h.h1
  have h4 := h.h5
  have h5 : (oth ms x).length * 1 ≤ (oth ms x).length * laps := Nat.mul_le_mul_left _ h3
  have h6 : (oth ms x).length * laps ≤ 11 * 5 := Nat.mul_le_mul h1.2 h4
  split at h2 <;> omega
/-- who may be next -/
def nxt (ms : List Str) (f x : Str) (c : Str → Nat) (b : Bool) : List Str := (oth ms x).filter fun o => decide (0 < c o) && (!b || decide (o ∈ stOf ms f x))
/-- lists from the bag, at the start -/
def frmT (ms : List Str) (f x : Str) (c : Str → Nat) : Nat := ((nxt ms f x c true).map fun o => frm (oth ms x) (dec c o)).sum
def k_Lost_lists_from (C_Lost : Addr) : CT := fun us Q => ∃ ms f x laps c, us = [lostT C_Lost ms f x laps, bagN (oth ms x) c, .bl true] ∧ LawOk ms f x laps ∧ 2 ≤ tot (oth ms x) c ∧ tot (oth ms x) c ≤ 60 ∧ Q (false, .int (frmT ms f x c : Nat))
theorem ok_Lost_lists_from {f : Addr} {fd : FuncData} {C_Lost : Addr} (B : Blt mg) (TX : Txt K mg C_Lost) (G_arrangements : Callee P w K mg base "arrangements" 1 1 (rc k_arrangements)) (G_Lost_after : CalleeM P w K mg base C_Lost "after" 3 3 (rc (k_Lost_after C_Lost))) (G_Lost_next_names : CalleeM P w K mg base C_Lost "next_names" 1 3 (rc (k_Lost_next_names C_Lost))) (F : Fun K "lists_from" "Lost.lists_from" s_Lost_lists_from f fd) : FnOk P w K mg base CX0 4 f fd ["self", "bag", "is_start"] (spOf K 3 (rc (k_Lost_lists_from C_Lost))) := by
  refine fn_r (k := 3) F sc_Lost_lists_from rfl fun cdv A outer s H E hr => ⟨_, (qss_cons (qs_if (qt_val (qe_var (pv 2))) (qss_one (qs_ret (q_add (q_int rfl B.int (qa_cons (q_cmp qc_lt (q_sumV rfl rfl B.sum (qe_var (pv 1))) (qe_c pe_int) (by rfl)) qa_nil)) (q_sum rfl rfl B.sum (qa_cons (q_lc (own := [("one", 3)]) rfl sc_Lost_lists_from.nd (qi_list (q_methC G_Lost_next_names TX.cls_Lost hr (qe_var (pv 0)) (qa_cons (qe_var (pv 1)) (qa_cons (qe_c pe_bl) qa_nil)) (by decide))) (blkOk_by (N := N_Lost_lists_from) (sc := defScope s_Lost_lists_from) (by decide +kernel)) (fun _ _ _ _ _ => (gq_name (pg_name (i := 3) sc_Lost_lists_from.nd rfl (by first | exact Or.inl rfl | exact Or.inr rfl)))) (fun _ _ _ _ _ => qts_nil) (fun _ _ _ _ _ => (q_methC G_Lost_after TX.cls_Lost hr (qe_var (pv 0)) (qa_cons (qe_var (pv 1)) (qa_cons (qe_var (pv 3)) qa_nil)) (by decide)))) qa_nil))))) qss_nil)
      (qss_one (qs_ret (q_mul (q_callC G_arrangements hr (by decide) rfl (qa_cons (qe_var (pv 1)) qa_nil)) (q_sub (qe_c pe_int) (q_int rfl B.int (qa_cons (q_cmp (qc_eq (Room.hu hr)) (q_sumV rfl rfl B.sum (qe_var (pv 1))) (qe_c pe_int) (by rfl)) qa_nil))))))), ?_⟩
  -- names: 0 self, 1 bag, 2 is_start, 3 one
  rintro us Q hl ⟨ms, f, x, laps, c, rfl, hg, h2, ht, q⟩
  repeat (first | refine ⟨_, rfl, rfl, List.nodup_nil, ?_⟩ | refine ⟨_, rfl, Nat.le_of_ble_eq_true rfl, ?_⟩ | refine ⟨_, rfl, ?_⟩ | refine ⟨_, _, rfl, rfl, ?_⟩ | refine ⟨_, _, _, rfl, rfl, by decide +kernel, ?_⟩ | refine Or.inl ⟨_, rfl, ?_⟩ | refine Or.inr ⟨_, rfl, ?_⟩ | refine Or.inl ⟨_, _, rfl, rfl, ?_⟩ | refine ⟨_, _, rfl, ?_⟩ | refine ⟨rfl, ?_⟩ | refine ⟨⟨_, rfl⟩, ?_⟩ | refine Or.inl ⟨_, _, _, rfl, rfl, rfl, ?_⟩ | refine ⟨_, _, _, rfl, rfl, ?_⟩)
  refine ⟨_, _, bagN_ints _ c, ?_⟩
  rw [bagN_sum]
  repeat (first | refine ⟨_, rfl, rfl, List.nodup_nil, ?_⟩ | refine ⟨_, rfl, Nat.le_of_ble_eq_true rfl, ?_⟩ | refine ⟨_, rfl, ?_⟩ | refine ⟨_, _, rfl, rfl, ?_⟩ | refine ⟨_, _, _, rfl, rfl, by decide +kernel, ?_⟩ | refine Or.inl ⟨_, rfl, ?_⟩ | refine Or.inr ⟨_, rfl, ?_⟩ | refine Or.inl ⟨_, _, rfl, rfl, ?_⟩ | refine ⟨_, _, rfl, ?_⟩ | refine ⟨rfl, ?_⟩ | refine ⟨⟨_, rfl⟩, ?_⟩ | refine Or.inl ⟨_, _, _, rfl, rfl, rfl, ?_⟩ | refine ⟨_, _, _, rfl, rfl, ?_⟩)
  have e0 : decide (((tot (oth ms x) c : Nat) : Int) < 2) = false := by simp; omega
  rw [e0]
  refine ⟨by decide +kernel, ?_⟩
  repeat (first | refine ⟨_, rfl, rfl, List.nodup_nil, ?_⟩ | refine ⟨_, rfl, Nat.le_of_ble_eq_true rfl, ?_⟩ | refine ⟨_, rfl, ?_⟩ | refine ⟨_, _, rfl, rfl, ?_⟩ | refine ⟨_, _, _, rfl, rfl, by decide +kernel, ?_⟩ | refine Or.inl ⟨_, rfl, ?_⟩ | refine Or.inr ⟨_, rfl, ?_⟩ | refine Or.inl ⟨_, _, rfl, rfl, ?_⟩ | refine ⟨_, _, rfl, ?_⟩ | refine ⟨rfl, ?_⟩ | refine ⟨⟨_, rfl⟩, ?_⟩ | refine Or.inl ⟨_, _, _, rfl, rfl, rfl, ?_⟩ | refine ⟨_, _, _, rfl, rfl, ?_⟩)
  refine ⟨_, _, _, _, c, true, rfl, hg, ?_⟩
  have hn : ∀ o ∈ nxt ms f x c true, o ∈ oth ms x ∧ 0 < c o := fun o ho => by
    have h := List.mem_filter.mp ho
    have h2 := h.2
    simp only [Bool.and_eq_true, decide_eq_true_eq] at h2
    exact ⟨h.1, h2.1⟩
  have hnl : (nxt ms f x c true).length ≤ 11 := Nat.le_trans (List.length_filter_le _ _) hg.olen.2
  refine ⟨_, rfl, by simp [strsT]; exact Nat.le_trans hnl (by decide), lc_map T.str (fun o => (false, .int (frm (oth ms x) (dec c o) : Nat))) (nxt ms f x c true) (fun o ho Kb hk => ?_) ?_⟩
  · repeat (first | refine ⟨_, rfl, rfl, List.nodup_nil, ?_⟩ | refine ⟨_, rfl, Nat.le_of_ble_eq_true rfl, ?_⟩ | refine ⟨_, rfl, ?_⟩ | refine ⟨_, _, rfl, rfl, ?_⟩ | refine ⟨_, _, _, rfl, rfl, by decide +kernel, ?_⟩ | refine Or.inl ⟨_, rfl, ?_⟩ | refine Or.inr ⟨_, rfl, ?_⟩ | refine Or.inl ⟨_, _, rfl, rfl, ?_⟩ | refine ⟨_, _, rfl, ?_⟩ | refine ⟨rfl, ?_⟩ | refine ⟨⟨_, rfl⟩, ?_⟩ | refine Or.inl ⟨_, _, _, rfl, rfl, rfl, ?_⟩ | refine ⟨_, _, _, rfl, rfl, ?_⟩)
    refine ⟨by decide +kernel, ?_⟩
    repeat (first | refine ⟨_, rfl, rfl, List.nodup_nil, ?_⟩ | refine ⟨_, rfl, Nat.le_of_ble_eq_true rfl, ?_⟩ | refine ⟨_, rfl, ?_⟩ | refine ⟨_, _, rfl, rfl, ?_⟩ | refine ⟨_, _, _, rfl, rfl, by decide +kernel, ?_⟩ | refine Or.inl ⟨_, rfl, ?_⟩ | refine Or.inr ⟨_, rfl, ?_⟩ | refine Or.inl ⟨_, _, rfl, rfl, ?_⟩ | refine ⟨_, _, rfl, ?_⟩ | refine ⟨rfl, ?_⟩ | refine ⟨⟨_, rfl⟩, ?_⟩ | refine Or.inl ⟨_, _, _, rfl, rfl, rfl, ?_⟩ | refine ⟨_, _, _, rfl, rfl, ?_⟩)
    exact ⟨_, _, _, _, c, o, rfl, hg, (hn o ho).1, (hn o ho).2, ht, hk⟩
  rw [mkR_map]
  refine ⟨_, rfl, (nxt ms f x c true).map fun o => (frm (oth ms x) (dec c o) : Int), by simp [List.map_map, Function.comp_def], ?_⟩
  have e1 : ∀ l : List Str, (l.map fun o => (frm (oth ms x) (dec c o) : Int)).sum = ((l.map fun o => frm (oth ms x) (dec c o)).sum : Nat) := by
    intro l
    induction l with
    | nil => rfl
    | cons a l ih => simp [ih]
  rw [e1]
  repeat (first | refine ⟨_, rfl, rfl, List.nodup_nil, ?_⟩ | refine ⟨_, rfl, Nat.le_of_ble_eq_true rfl, ?_⟩ | refine ⟨_, rfl, ?_⟩ | refine ⟨_, _, rfl, rfl, ?_⟩ | refine ⟨_, _, _, rfl, rfl, by decide +kernel, ?_⟩ | refine Or.inl ⟨_, rfl, ?_⟩ | refine Or.inr ⟨_, rfl, ?_⟩ | refine Or.inl ⟨_, _, rfl, rfl, ?_⟩ | refine ⟨_, _, rfl, ?_⟩ | refine ⟨rfl, ?_⟩ | refine ⟨⟨_, rfl⟩, ?_⟩ | refine Or.inl ⟨_, _, _, rfl, rfl, rfl, ?_⟩ | refine ⟨_, _, _, rfl, rfl, ?_⟩)
  refine qo2 q ?_
  simp [frmT]
def k_Lost_total (C_Lost : Addr) : CT := fun us Q => ∃ ms f x laps, us = [lostT C_Lost ms f x laps] ∧ LawOk ms f x laps ∧ Q (false, .int (frmT ms f x (c0 f laps) : Nat))
theorem ok_Lost_total {f : Addr} {fd : FuncData} {C_Lost : Addr} (B : Blt mg) (TX : Txt K mg C_Lost) (G_Lost_lists_from : CalleeM P w K mg base C_Lost "lists_from" 4 3 (rc (k_Lost_lists_from C_Lost))) (F : Fun K "total" "Lost.total" s_Lost_total f fd) : FnOk P w K mg base CX0 5 f fd ["self"] (spOf K 1 (rc (k_Lost_total C_Lost))) := by
  refine fn_r (k := 4) F sc_Lost_total rfl fun cdv A outer s H E hr => ⟨_, (qss_one (qs_ret (q_if (qt_val (q_fld (qe_var (pv 0)) TX.cls_Lost TX.na_Lost_possible)) (q_methC G_Lost_lists_from TX.cls_Lost hr (qe_var (pv 0)) (qa_cons (q_fld (qe_var (pv 0)) TX.cls_Lost TX.na_Lost_bag) (qa_cons (qe_c pe_bl) qa_nil)) (by decide)) (qe_c pe_int)))), ?_⟩
  -- names: 0 self
  rintro us Q hl ⟨ms, f, x, laps, rfl, hg, q⟩
  repeat (first | refine ⟨_, rfl, rfl, List.nodup_nil, ?_⟩ | refine ⟨_, rfl, Nat.le_of_ble_eq_true rfl, ?_⟩ | refine ⟨_, rfl, ?_⟩ | refine ⟨_, _, rfl, rfl, ?_⟩ | refine ⟨_, _, _, rfl, rfl, by decide +kernel, ?_⟩ | refine Or.inl ⟨_, rfl, ?_⟩ | refine Or.inr ⟨_, rfl, ?_⟩ | refine Or.inl ⟨_, _, rfl, rfl, ?_⟩ | refine ⟨_, _, rfl, ?_⟩ | refine ⟨rfl, ?_⟩ | refine ⟨⟨_, rfl⟩, ?_⟩ | refine Or.inl ⟨_, _, _, rfl, rfl, rfl, ?_⟩ | refine ⟨_, _, _, rfl, rfl, ?_⟩)
  refine ⟨by decide +kernel, ?_⟩
  repeat (first | refine ⟨_, rfl, rfl, List.nodup_nil, ?_⟩ | refine ⟨_, rfl, Nat.le_of_ble_eq_true rfl, ?_⟩ | refine ⟨_, rfl, ?_⟩ | refine ⟨_, _, rfl, rfl, ?_⟩ | refine ⟨_, _, _, rfl, rfl, by decide +kernel, ?_⟩ | refine Or.inl ⟨_, rfl, ?_⟩ | refine Or.inr ⟨_, rfl, ?_⟩ | refine Or.inl ⟨_, _, rfl, rfl, ?_⟩ | refine ⟨_, _, rfl, ?_⟩ | refine ⟨rfl, ?_⟩ | refine ⟨⟨_, rfl⟩, ?_⟩ | refine Or.inl ⟨_, _, _, rfl, rfl, rfl, ?_⟩ | refine ⟨_, _, _, rfl, rfl, ?_⟩)
  exact ⟨_, _, _, _, c0 f laps, rfl, hg, hg.tot.1, Nat.le_trans hg.tot.2 (by decide), q⟩
def k_count_recoveries (C_Lost : Addr) : CT := fun us Q => ∃ ms f x laps, us = [strsT ms, .str f, listsT ms (LL x laps), .str x] ∧ LawOk ms f x laps ∧ Q (false, .int (frmT ms f x (c0 f laps) : Nat))
theorem ok_count_recoveries {f : Addr} {fd : FuncData} {C_Lost : Addr} (B : Blt mg) (TX : Txt K mg C_Lost) (G_need_lost : Callee P w K mg base "need_lost" 5 4 (rc k_need_lost)) (G_Lost_total : CalleeM P w K mg base C_Lost "total" 5 1 (rc (k_Lost_total C_Lost))) (G_Lost : CalleeC P w K mg base "Lost" C_Lost 3 5 (k_Lostzz_initzz C_Lost)) (F : Fun K "count_recoveries" "count_recoveries" s_count_recoveries f fd) : FnOk P w K mg base CX0 6 f fd ["members", "first", "lists", "member"] (spOf K 4 (rc (k_count_recoveries C_Lost))) := by
  refine fn_r (k := 5) F sc_count_recoveries rfl fun cdv A outer s H E hr => ⟨_, (qss_cons (qs_expr (q_callC G_need_lost hr (by decide) rfl (qa_cons (qe_var (pv 0)) (qa_cons (qe_var (pv 1)) (qa_cons (qe_var (pv 2)) (qa_cons (qe_var (pv 3)) qa_nil))))))
      (qss_one (qs_ret (q_methC0 G_Lost_total TX.cls_Lost hr (q_makeC G_Lost hr (by decide) rfl (qa_cons (qe_var (pv 0)) (qa_cons (qe_var (pv 1)) (qa_cons (qe_var (pv 2)) (qa_cons (qe_var (pv 3)) qa_nil))))) (by decide))))), ?_⟩
  -- names: 0 members, 1 first, 2 lists, 3 member
  rintro us Q hl ⟨ms, f, x, laps, rfl, hg, q⟩
  repeat (first | refine ⟨_, rfl, rfl, List.nodup_nil, ?_⟩ | refine ⟨_, rfl, Nat.le_of_ble_eq_true rfl, ?_⟩ | refine ⟨_, rfl, ?_⟩ | refine ⟨_, _, rfl, rfl, ?_⟩ | refine ⟨_, _, _, rfl, rfl, by decide +kernel, ?_⟩ | refine Or.inl ⟨_, rfl, ?_⟩ | refine Or.inr ⟨_, rfl, ?_⟩ | refine Or.inl ⟨_, _, rfl, rfl, ?_⟩ | refine ⟨_, _, rfl, ?_⟩ | refine ⟨rfl, ?_⟩ | refine ⟨⟨_, rfl⟩, ?_⟩ | refine Or.inl ⟨_, _, _, rfl, rfl, rfl, ?_⟩ | refine ⟨_, _, _, rfl, rfl, ?_⟩)
  refine ⟨_, _, _, _, rfl, hg.ls, hg.hf, hg.hx, by simp [LL], ?_⟩
  repeat (first | refine ⟨_, rfl, rfl, List.nodup_nil, ?_⟩ | refine ⟨_, rfl, Nat.le_of_ble_eq_true rfl, ?_⟩ | refine ⟨_, rfl, ?_⟩ | refine ⟨_, _, rfl, rfl, ?_⟩ | refine ⟨_, _, _, rfl, rfl, by decide +kernel, ?_⟩ | refine Or.inl ⟨_, rfl, ?_⟩ | refine Or.inr ⟨_, rfl, ?_⟩ | refine Or.inl ⟨_, _, rfl, rfl, ?_⟩ | refine ⟨_, _, rfl, ?_⟩ | refine ⟨rfl, ?_⟩ | refine ⟨⟨_, rfl⟩, ?_⟩ | refine Or.inl ⟨_, _, _, rfl, rfl, rfl, ?_⟩ | refine ⟨_, _, _, rfl, rfl, ?_⟩)
  refine ⟨ms, f, x, laps, rfl, hg, rfl, _, rfl, ?_⟩
  repeat (first | refine ⟨_, rfl, rfl, List.nodup_nil, ?_⟩ | refine ⟨_, rfl, Nat.le_of_ble_eq_true rfl, ?_⟩ | refine ⟨_, rfl, ?_⟩ | refine ⟨_, _, rfl, rfl, ?_⟩ | refine ⟨_, _, _, rfl, rfl, by decide +kernel, ?_⟩ | refine Or.inl ⟨_, rfl, ?_⟩ | refine Or.inr ⟨_, rfl, ?_⟩ | refine Or.inl ⟨_, _, rfl, rfl, ?_⟩ | refine ⟨_, _, rfl, ?_⟩ | refine ⟨rfl, ?_⟩ | refine ⟨⟨_, rfl⟩, ?_⟩ | refine Or.inl ⟨_, _, _, rfl, rfl, rfl, ?_⟩ | refine ⟨_, _, _, rfl, rfl, ?_⟩)
  refine ⟨by decide +kernel, ?_⟩
  repeat (first | refine ⟨_, rfl, rfl, List.nodup_nil, ?_⟩ | refine ⟨_, rfl, Nat.le_of_ble_eq_true rfl, ?_⟩ | refine ⟨_, rfl, ?_⟩ | refine ⟨_, _, rfl, rfl, ?_⟩ | refine ⟨_, _, _, rfl, rfl, by decide +kernel, ?_⟩ | refine Or.inl ⟨_, rfl, ?_⟩ | refine Or.inr ⟨_, rfl, ?_⟩ | refine Or.inl ⟨_, _, rfl, rfl, ?_⟩ | refine ⟨_, _, rfl, ?_⟩ | refine ⟨rfl, ?_⟩ | refine ⟨⟨_, rfl⟩, ?_⟩ | refine Or.inl ⟨_, _, _, rfl, rfl, rfl, ?_⟩ | refine ⟨_, _, _, rfl, rfl, ?_⟩)
  exact ⟨_, _, _, _, rfl, hg, q⟩
end
end Q
end

section
set_option maxRecDepth 100000
set_option maxHeartbeats 2000000
namespace Q
open PySem L2
section
variable {P : Program} {w : World} {K : PySem.W.Frag} {mg : Str → Option Value} {base : Heap}
theorem dec_pos {ns : List Str} {c : Str → Nat} (h : 0 < tot ns c) : ∃ o ∈ ns, 0 < c o := by
  unfold tot at h
  induction ns with
  | nil => simp at h
  | cons a l ih =>
    by_cases e : 0 < c a
    · exact ⟨a, List.mem_cons_self, e⟩
    · rw [List.map_cons, List.sum_cons] at h
      obtain ⟨o, h1, h2⟩ := ih (by omega)
      exact ⟨o, List.mem_cons_of_mem _ h1, h2⟩
def k_possible_last_holders (C_Lost : Addr) : CT := fun us Q => ∃ ms x laps, us = [strsT ms, .str x, listsT ms (LL x laps), .str x] ∧ LawOk ms x x laps ∧ ∀ fl, Q (fl, strsT ms)
theorem ok_possible_last_holders {f : Addr} {fd : FuncData} {C_Lost : Addr} (B : Blt mg) (TX : Txt K mg C_Lost) (G_need_lost : Callee P w K mg base "need_lost" 5 4 (rc k_need_lost)) (G_Lost : CalleeC P w K mg base "Lost" C_Lost 3 5 (k_Lostzz_initzz C_Lost)) (G_Lost_without : CalleeM P w K mg base C_Lost "without" 1 3 (rc (k_Lost_without C_Lost))) (G_Lost_next_names : CalleeM P w K mg base C_Lost "next_names" 1 3 (rc (k_Lost_next_names C_Lost))) (F : Fun K "possible_last_holders" "possible_last_holders" s_possible_last_holders f fd) : FnOk P w K mg base CX0 6 f fd ["members", "first", "lists", "member"] (spOf K 4 (rc (k_possible_last_holders C_Lost))) := by
  refine fn_r (k := 5) F sc_possible_last_holders rfl fun cdv A outer s H E hr => ⟨_, (qss_cons (qs_expr (q_callC G_need_lost hr (by decide) rfl (qa_cons (qe_var (pv 0)) (qa_cons (qe_var (pv 1)) (qa_cons (qe_var (pv 2)) (qa_cons (qe_var (pv 3)) qa_nil))))))
      (qss_cons (qs_setF (ps_set (i := 4) sc_possible_last_holders.nd rfl (by first | exact Or.inl rfl | exact Or.inr rfl) (q_makeC G_Lost hr (by decide) rfl (qa_cons (qe_var (pv 0)) (qa_cons (qe_var (pv 1)) (qa_cons (qe_var (pv 2)) (qa_cons (qe_var (pv 3)) qa_nil)))))) (hp := by decide))
      (qss_cons (qs_if (qt_not (qt_val (q_fld (qe_var (pv 4)) TX.cls_Lost TX.na_Lost_possible))) (qss_one (qs_ret (q_lstO qa_nil))) qss_nil)
      (qss_cons (qs_set (ps_set (i := 5) sc_possible_last_holders.nd rfl (by first | exact Or.inl rfl | exact Or.inr rfl) (q_lstO qa_nil)) (hp := by decide))
      (qss_cons (qs_for PassesOwn.never rfl (qi_list (qe_var (pv 0))) (gq_name (pg_name (i := 6) sc_possible_last_holders.nd rfl (by first | exact Or.inl rfl | exact Or.inr rfl))) (qss_cons (qs_setF (ps_set (i := 7) sc_possible_last_holders.nd rfl (by first | exact Or.inl rfl | exact Or.inr rfl) (q_if (qt_cmp (qc_eq (Room.hu hr)) (qe_var (pv 6)) (qe_var (pv 3)) (by rfl)) (q_fld (qe_var (pv 4)) TX.cls_Lost TX.na_Lost_bag) (q_if (qt_cmp qc_gt (q_dget (Room.hu1 hr) (q_fld (qe_var (pv 4)) TX.cls_Lost TX.na_Lost_bag) (qe_var (pv 6)) (fun _ _ => rfl)) (qe_c pe_int) (by rfl)) (q_methC G_Lost_without TX.cls_Lost hr (qe_var (pv 4)) (qa_cons (q_fld (qe_var (pv 4)) TX.cls_Lost TX.na_Lost_bag) (qa_cons (qe_var (pv 6)) qa_nil)) (by decide)) (qe_c pe_non)))) (hp := by decide))
      (qss_one (qs_if (QW.qt (qw_and (qt_cmp qc_notN (qe_var (pv 7)) (qe_c pe_non) (by rfl)) (qw_and1 (QW.qt (qw_or (qt_cmp (qc_eq (Room.hu hr)) (q_sumV rfl rfl B.sum (qe_var (pv 7))) (qe_c pe_int) (by rfl)) (qw_or1 (qt_cmp (qc_ne (Room.hu hr)) (q_methC G_Lost_next_names TX.cls_Lost hr (qe_var (pv 4)) (qa_cons (qe_var (pv 7)) (qa_cons (qe_c pe_bl) qa_nil)) (by decide)) (q_lstO qa_nil) (by rfl)))))))) (qss_one (qs_expr (q_lop PySem.F.slot_list_append PySem.F.type_list_append mt_append lop_append (qp_slot (pv 5)) (qa_cons (qe_var (pv 6)) qa_nil)))) qss_nil))) (hpn := by decide))
      (qss_one (qs_ret (qe_share (pv 5))))))))), ?_⟩
  -- names: 0 members, 1 first, 2 lists, 3 member, 4 lost, 5 found, 6 last, 7 bag
  rintro us Q hl ⟨ms, x, laps, rfl, hg, q⟩
  repeat (first | refine ⟨_, rfl, rfl, List.nodup_nil, ?_⟩ | refine ⟨_, rfl, Nat.le_of_ble_eq_true rfl, ?_⟩ | refine ⟨_, rfl, ?_⟩ | refine ⟨_, _, rfl, rfl, ?_⟩ | refine ⟨_, _, _, rfl, rfl, by decide +kernel, ?_⟩ | refine Or.inl ⟨_, rfl, ?_⟩ | refine Or.inr ⟨_, rfl, ?_⟩ | refine Or.inl ⟨_, _, rfl, rfl, ?_⟩ | refine ⟨_, _, rfl, ?_⟩ | refine ⟨rfl, ?_⟩ | refine ⟨⟨_, rfl⟩, ?_⟩ | refine Or.inl ⟨_, _, _, rfl, rfl, rfl, ?_⟩ | refine ⟨_, _, _, rfl, rfl, ?_⟩)
  refine ⟨_, _, _, _, rfl, hg.ls, hg.hf, hg.hx, by simp [LL], ?_⟩
  repeat (first | refine ⟨_, rfl, rfl, List.nodup_nil, ?_⟩ | refine ⟨_, rfl, Nat.le_of_ble_eq_true rfl, ?_⟩ | refine ⟨_, rfl, ?_⟩ | refine ⟨_, _, rfl, rfl, ?_⟩ | refine ⟨_, _, _, rfl, rfl, by decide +kernel, ?_⟩ | refine Or.inl ⟨_, rfl, ?_⟩ | refine Or.inr ⟨_, rfl, ?_⟩ | refine Or.inl ⟨_, _, rfl, rfl, ?_⟩ | refine ⟨_, _, rfl, ?_⟩ | refine ⟨rfl, ?_⟩ | refine ⟨⟨_, rfl⟩, ?_⟩ | refine Or.inl ⟨_, _, _, rfl, rfl, rfl, ?_⟩ | refine ⟨_, _, _, rfl, rfl, ?_⟩)
  refine ⟨ms, x, x, laps, rfl, hg, rfl, _, rfl, ?_⟩
  repeat (first | refine ⟨_, rfl, rfl, List.nodup_nil, ?_⟩ | refine ⟨_, rfl, Nat.le_of_ble_eq_true rfl, ?_⟩ | refine ⟨_, rfl, ?_⟩ | refine ⟨_, _, rfl, rfl, ?_⟩ | refine ⟨_, _, _, rfl, rfl, by decide +kernel, ?_⟩ | refine Or.inl ⟨_, rfl, ?_⟩ | refine Or.inr ⟨_, rfl, ?_⟩ | refine Or.inl ⟨_, _, rfl, rfl, ?_⟩ | refine ⟨_, _, rfl, ?_⟩ | refine ⟨rfl, ?_⟩ | refine ⟨⟨_, rfl⟩, ?_⟩ | refine Or.inl ⟨_, _, _, rfl, rfl, rfl, ?_⟩ | refine ⟨_, _, _, rfl, rfl, ?_⟩)
  refine for_rec T.str (fun xs e => ∃ ps o6 o7, ps ++ xs = ms ∧ e = [some (false, strsT ms), some (false, .str x), some (false, listsT ms (LL x laps)), some (false, .str x), some (false, lostT C_Lost ms x x laps), some (true, strsT ps), o6, o7]) ?_ ?_ ms _ ⟨[], none, none, rfl, rfl⟩
  · rintro e ⟨ps, o6, o7, hp, rfl⟩
    rw [List.append_nil] at hp
    subst hp
    exact ⟨_, rfl, q false⟩
  · rintro z xs e N ⟨ps, o6, o7, hp, rfl⟩ hN
    have hz : z ∈ ms := by rw [← hp]; simp
    repeat (first | refine ⟨_, rfl, rfl, List.nodup_nil, ?_⟩ | refine ⟨_, rfl, Nat.le_of_ble_eq_true rfl, ?_⟩ | refine ⟨_, rfl, ?_⟩ | refine ⟨_, _, rfl, rfl, ?_⟩ | refine ⟨_, _, _, rfl, rfl, by decide +kernel, ?_⟩ | refine Or.inl ⟨_, rfl, ?_⟩ | refine Or.inr ⟨_, rfl, ?_⟩ | refine Or.inl ⟨_, _, rfl, rfl, ?_⟩ | refine ⟨_, _, rfl, ?_⟩ | refine ⟨rfl, ?_⟩ | refine ⟨⟨_, rfl⟩, ?_⟩ | refine Or.inl ⟨_, _, _, rfl, rfl, rfl, ?_⟩ | refine ⟨_, _, _, rfl, rfl, ?_⟩)
    refine ⟨_, teq_str (hg.good z hz).ok (hg.good x hg.hx).ok, ?_⟩
    repeat (first | refine ⟨_, rfl, rfl, List.nodup_nil, ?_⟩ | refine ⟨_, rfl, Nat.le_of_ble_eq_true rfl, ?_⟩ | refine ⟨_, rfl, ?_⟩ | refine ⟨_, _, rfl, rfl, ?_⟩ | refine ⟨_, _, _, rfl, rfl, by decide +kernel, ?_⟩ | refine Or.inl ⟨_, rfl, ?_⟩ | refine Or.inr ⟨_, rfl, ?_⟩ | refine Or.inl ⟨_, _, rfl, rfl, ?_⟩ | refine ⟨_, _, rfl, ?_⟩ | refine ⟨rfl, ?_⟩ | refine ⟨⟨_, rfl⟩, ?_⟩ | refine Or.inl ⟨_, _, _, rfl, rfl, rfl, ?_⟩ | refine ⟨_, _, _, rfl, rfl, ?_⟩)
    have ht := hg.tot
    have hps : (ps.map T.str).length ≤ 1000000 := by
      have h1 := hg.le
      rw [← hp] at h1
      simp at h1 ⊢
      omega
    have hne : ∀ c : Str → Nat, 0 < tot (oth ms x) c → decide ((oth ms x).filter (fun o => decide (0 < c o) && (!true || decide (o ∈ stOf ms x x))) = []) = false := by
      intro c hc
      obtain ⟨o, h1, h2⟩ := dec_pos hc
      refine decide_eq_false fun e => ?_
      have : o ∈ (oth ms x).filter (fun o => decide (0 < c o) && (!true || decide (o ∈ stOf ms x x))) := List.mem_filter.mpr ⟨h1, by simp [h2, stOf, h1]⟩
      rw [e] at this
      simp at this
    by_cases hzx : z = x
    · refine iteTq (by simp [hzx]) ?_
      have hpos : 0 < tot (oth ms x) (c0 x laps) := by omega
      repeat (first | refine ⟨_, rfl, rfl, List.nodup_nil, ?_⟩ | refine ⟨_, rfl, Nat.le_of_ble_eq_true rfl, ?_⟩ | refine ⟨_, rfl, ?_⟩ | refine ⟨_, _, rfl, rfl, ?_⟩ | refine ⟨_, _, _, rfl, rfl, by decide +kernel, ?_⟩ | refine Or.inl ⟨_, rfl, ?_⟩ | refine Or.inr ⟨_, rfl, ?_⟩ | refine Or.inl ⟨_, _, rfl, rfl, ?_⟩ | refine ⟨_, _, rfl, ?_⟩ | refine ⟨rfl, ?_⟩ | refine ⟨⟨_, rfl⟩, ?_⟩ | refine Or.inl ⟨_, _, _, rfl, rfl, rfl, ?_⟩ | refine ⟨_, _, _, rfl, rfl, ?_⟩)
      refine ⟨_, _, bagN_ints _ (c0 x laps), ?_⟩
      rw [bagN_sum]
      repeat (first | refine ⟨_, rfl, rfl, List.nodup_nil, ?_⟩ | refine ⟨_, rfl, Nat.le_of_ble_eq_true rfl, ?_⟩ | refine ⟨_, rfl, ?_⟩ | refine ⟨_, _, rfl, rfl, ?_⟩ | refine ⟨_, _, _, rfl, rfl, by decide +kernel, ?_⟩ | refine Or.inl ⟨_, rfl, ?_⟩ | refine Or.inr ⟨_, rfl, ?_⟩ | refine Or.inl ⟨_, _, rfl, rfl, ?_⟩ | refine ⟨_, _, rfl, ?_⟩ | refine ⟨rfl, ?_⟩ | refine ⟨⟨_, rfl⟩, ?_⟩ | refine Or.inl ⟨_, _, _, rfl, rfl, rfl, ?_⟩ | refine ⟨_, _, _, rfl, rfl, ?_⟩)
      refine iteFq (by simp [PyData.eqv]; omega) ?_
      repeat (first | refine ⟨_, rfl, rfl, List.nodup_nil, ?_⟩ | refine ⟨_, rfl, Nat.le_of_ble_eq_true rfl, ?_⟩ | refine ⟨_, rfl, ?_⟩ | refine ⟨_, _, rfl, rfl, ?_⟩ | refine ⟨_, _, _, rfl, rfl, by decide +kernel, ?_⟩ | refine Or.inl ⟨_, rfl, ?_⟩ | refine Or.inr ⟨_, rfl, ?_⟩ | refine Or.inl ⟨_, _, rfl, rfl, ?_⟩ | refine ⟨_, _, rfl, ?_⟩ | refine ⟨rfl, ?_⟩ | refine ⟨⟨_, rfl⟩, ?_⟩ | refine Or.inl ⟨_, _, _, rfl, rfl, rfl, ?_⟩ | refine ⟨_, _, _, rfl, rfl, ?_⟩)
      refine ⟨by decide +kernel, ?_⟩
      repeat (first | refine ⟨_, rfl, rfl, List.nodup_nil, ?_⟩ | refine ⟨_, rfl, Nat.le_of_ble_eq_true rfl, ?_⟩ | refine ⟨_, rfl, ?_⟩ | refine ⟨_, _, rfl, rfl, ?_⟩ | refine ⟨_, _, _, rfl, rfl, by decide +kernel, ?_⟩ | refine Or.inl ⟨_, rfl, ?_⟩ | refine Or.inr ⟨_, rfl, ?_⟩ | refine Or.inl ⟨_, _, rfl, rfl, ?_⟩ | refine ⟨_, _, rfl, ?_⟩ | refine ⟨rfl, ?_⟩ | refine ⟨⟨_, rfl⟩, ?_⟩ | refine Or.inl ⟨_, _, _, rfl, rfl, rfl, ?_⟩ | refine ⟨_, _, _, rfl, rfl, ?_⟩)
      refine ⟨_, _, _, _, (c0 x laps), true, rfl, hg, ?_⟩
      repeat (first | refine ⟨_, rfl, rfl, List.nodup_nil, ?_⟩ | refine ⟨_, rfl, Nat.le_of_ble_eq_true rfl, ?_⟩ | refine ⟨_, rfl, ?_⟩ | refine ⟨_, _, rfl, rfl, ?_⟩ | refine ⟨_, _, _, rfl, rfl, by decide +kernel, ?_⟩ | refine Or.inl ⟨_, rfl, ?_⟩ | refine Or.inr ⟨_, rfl, ?_⟩ | refine Or.inl ⟨_, _, rfl, rfl, ?_⟩ | refine ⟨_, _, rfl, ?_⟩ | refine ⟨rfl, ?_⟩ | refine ⟨⟨_, rfl⟩, ?_⟩ | refine Or.inl ⟨_, _, _, rfl, rfl, rfl, ?_⟩ | refine ⟨_, _, _, rfl, rfl, ?_⟩)
      refine ⟨_, teq_strs (ys := []) (fun y hy => (hg.good y (List.mem_filter.mp (List.mem_filter.mp hy).1).1).ok) (by simp), ?_⟩
      repeat (first | refine ⟨_, rfl, rfl, List.nodup_nil, ?_⟩ | refine ⟨_, rfl, Nat.le_of_ble_eq_true rfl, ?_⟩ | refine ⟨_, rfl, ?_⟩ | refine ⟨_, _, rfl, rfl, ?_⟩ | refine ⟨_, _, _, rfl, rfl, by decide +kernel, ?_⟩ | refine Or.inl ⟨_, rfl, ?_⟩ | refine Or.inr ⟨_, rfl, ?_⟩ | refine Or.inl ⟨_, _, rfl, rfl, ?_⟩ | refine ⟨_, _, rfl, ?_⟩ | refine ⟨rfl, ?_⟩ | refine ⟨⟨_, rfl⟩, ?_⟩ | refine Or.inl ⟨_, _, _, rfl, rfl, rfl, ?_⟩ | refine ⟨_, _, _, rfl, rfl, ?_⟩)
      refine iteTq (by rw [hne _ hpos]; rfl) ?_
      repeat (first | refine ⟨_, rfl, rfl, List.nodup_nil, ?_⟩ | refine ⟨_, rfl, Nat.le_of_ble_eq_true rfl, ?_⟩ | refine ⟨_, rfl, ?_⟩ | refine ⟨_, _, rfl, rfl, ?_⟩ | refine ⟨_, _, _, rfl, rfl, by decide +kernel, ?_⟩ | refine Or.inl ⟨_, rfl, ?_⟩ | refine Or.inr ⟨_, rfl, ?_⟩ | refine Or.inl ⟨_, _, rfl, rfl, ?_⟩ | refine ⟨_, _, rfl, ?_⟩ | refine ⟨rfl, ?_⟩ | refine ⟨⟨_, rfl⟩, ?_⟩ | refine Or.inl ⟨_, _, _, rfl, rfl, rfl, ?_⟩ | refine ⟨_, _, _, rfl, rfl, ?_⟩)
      refine ⟨hps, ?_⟩
      refine hN _ ⟨ps ++ [z], some (false, .str z), some (false, bagN (oth ms x) (c0 x laps)), by rw [← hp]; simp, ?_⟩
      exact congrArg (fun t => [some (false, strsT ms), some (false, .str x), some (false, listsT ms (LL x laps)), some (false, .str x), some (false, lostT C_Lost ms x x laps), some (true, t), some (false, .str z), some (false, bagN (oth ms x) (c0 x laps))]) (show T.lst (ps.map T.str ++ [.str z]) = strsT (ps ++ [z]) by simp [strsT])
    · have hzo : z ∈ oth ms x := List.mem_filter.mpr ⟨hz, by simpa using hzx⟩
      have hz0 : 0 < c0 x laps z := by have := hg.h1; unfold c0; omega
      have hd := tot_dec hg.ond hzo hz0
      have hpos : 0 < tot (oth ms x) (dec (c0 x laps) z) := by omega
      refine iteFq (by simp [hzx]) ?_
      repeat (first | refine ⟨_, rfl, rfl, List.nodup_nil, ?_⟩ | refine ⟨_, rfl, Nat.le_of_ble_eq_true rfl, ?_⟩ | refine ⟨_, rfl, ?_⟩ | refine ⟨_, _, rfl, rfl, ?_⟩ | refine ⟨_, _, _, rfl, rfl, by decide +kernel, ?_⟩ | refine Or.inl ⟨_, rfl, ?_⟩ | refine Or.inr ⟨_, rfl, ?_⟩ | refine Or.inl ⟨_, _, rfl, rfl, ?_⟩ | refine ⟨_, _, rfl, ?_⟩ | refine ⟨rfl, ?_⟩ | refine ⟨⟨_, rfl⟩, ?_⟩ | refine Or.inl ⟨_, _, _, rfl, rfl, rfl, ?_⟩ | refine ⟨_, _, _, rfl, rfl, ?_⟩)
      refine ⟨_, _, _, _, rfl, rfl, by rw [dget_map, if_pos hzo], ?_⟩
      repeat (first | refine ⟨_, rfl, rfl, List.nodup_nil, ?_⟩ | refine ⟨_, rfl, Nat.le_of_ble_eq_true rfl, ?_⟩ | refine ⟨_, rfl, ?_⟩ | refine ⟨_, _, rfl, rfl, ?_⟩ | refine ⟨_, _, _, rfl, rfl, by decide +kernel, ?_⟩ | refine Or.inl ⟨_, rfl, ?_⟩ | refine Or.inr ⟨_, rfl, ?_⟩ | refine Or.inl ⟨_, _, rfl, rfl, ?_⟩ | refine ⟨_, _, rfl, ?_⟩ | refine ⟨rfl, ?_⟩ | refine ⟨⟨_, rfl⟩, ?_⟩ | refine Or.inl ⟨_, _, _, rfl, rfl, rfl, ?_⟩ | refine ⟨_, _, _, rfl, rfl, ?_⟩)
      refine iteTq (by simp; omega) ?_
      repeat (first | refine ⟨_, rfl, rfl, List.nodup_nil, ?_⟩ | refine ⟨_, rfl, Nat.le_of_ble_eq_true rfl, ?_⟩ | refine ⟨_, rfl, ?_⟩ | refine ⟨_, _, rfl, rfl, ?_⟩ | refine ⟨_, _, _, rfl, rfl, by decide +kernel, ?_⟩ | refine Or.inl ⟨_, rfl, ?_⟩ | refine Or.inr ⟨_, rfl, ?_⟩ | refine Or.inl ⟨_, _, rfl, rfl, ?_⟩ | refine ⟨_, _, rfl, ?_⟩ | refine ⟨rfl, ?_⟩ | refine ⟨⟨_, rfl⟩, ?_⟩ | refine Or.inl ⟨_, _, _, rfl, rfl, rfl, ?_⟩ | refine ⟨_, _, _, rfl, rfl, ?_⟩)
      refine ⟨by decide +kernel, ?_⟩
      repeat (first | refine ⟨_, rfl, rfl, List.nodup_nil, ?_⟩ | refine ⟨_, rfl, Nat.le_of_ble_eq_true rfl, ?_⟩ | refine ⟨_, rfl, ?_⟩ | refine ⟨_, _, rfl, rfl, ?_⟩ | refine ⟨_, _, _, rfl, rfl, by decide +kernel, ?_⟩ | refine Or.inl ⟨_, rfl, ?_⟩ | refine Or.inr ⟨_, rfl, ?_⟩ | refine Or.inl ⟨_, _, rfl, rfl, ?_⟩ | refine ⟨_, _, rfl, ?_⟩ | refine ⟨rfl, ?_⟩ | refine ⟨⟨_, rfl⟩, ?_⟩ | refine Or.inl ⟨_, _, _, rfl, rfl, rfl, ?_⟩ | refine ⟨_, _, _, rfl, rfl, ?_⟩)
      refine ⟨_, _, c0 x laps, z, rfl, hg.ond, fun n hn => hg.good n (List.mem_filter.mp hn).1, Nat.le_trans hg.olen.2 (by decide), hzo, hz0, ?_⟩
      repeat (first | refine ⟨_, rfl, rfl, List.nodup_nil, ?_⟩ | refine ⟨_, rfl, Nat.le_of_ble_eq_true rfl, ?_⟩ | refine ⟨_, rfl, ?_⟩ | refine ⟨_, _, rfl, rfl, ?_⟩ | refine ⟨_, _, _, rfl, rfl, by decide +kernel, ?_⟩ | refine Or.inl ⟨_, rfl, ?_⟩ | refine Or.inr ⟨_, rfl, ?_⟩ | refine Or.inl ⟨_, _, rfl, rfl, ?_⟩ | refine ⟨_, _, rfl, ?_⟩ | refine ⟨rfl, ?_⟩ | refine ⟨⟨_, rfl⟩, ?_⟩ | refine Or.inl ⟨_, _, _, rfl, rfl, rfl, ?_⟩ | refine ⟨_, _, _, rfl, rfl, ?_⟩)
      refine ⟨_, _, bagN_ints _ (dec (c0 x laps) z), ?_⟩
      rw [bagN_sum]
      repeat (first | refine ⟨_, rfl, rfl, List.nodup_nil, ?_⟩ | refine ⟨_, rfl, Nat.le_of_ble_eq_true rfl, ?_⟩ | refine ⟨_, rfl, ?_⟩ | refine ⟨_, _, rfl, rfl, ?_⟩ | refine ⟨_, _, _, rfl, rfl, by decide +kernel, ?_⟩ | refine Or.inl ⟨_, rfl, ?_⟩ | refine Or.inr ⟨_, rfl, ?_⟩ | refine Or.inl ⟨_, _, rfl, rfl, ?_⟩ | refine ⟨_, _, rfl, ?_⟩ | refine ⟨rfl, ?_⟩ | refine ⟨⟨_, rfl⟩, ?_⟩ | refine Or.inl ⟨_, _, _, rfl, rfl, rfl, ?_⟩ | refine ⟨_, _, _, rfl, rfl, ?_⟩)
      refine iteFq (by simp [PyData.eqv]; omega) ?_
      repeat (first | refine ⟨_, rfl, rfl, List.nodup_nil, ?_⟩ | refine ⟨_, rfl, Nat.le_of_ble_eq_true rfl, ?_⟩ | refine ⟨_, rfl, ?_⟩ | refine ⟨_, _, rfl, rfl, ?_⟩ | refine ⟨_, _, _, rfl, rfl, by decide +kernel, ?_⟩ | refine Or.inl ⟨_, rfl, ?_⟩ | refine Or.inr ⟨_, rfl, ?_⟩ | refine Or.inl ⟨_, _, rfl, rfl, ?_⟩ | refine ⟨_, _, rfl, ?_⟩ | refine ⟨rfl, ?_⟩ | refine ⟨⟨_, rfl⟩, ?_⟩ | refine Or.inl ⟨_, _, _, rfl, rfl, rfl, ?_⟩ | refine ⟨_, _, _, rfl, rfl, ?_⟩)
      refine ⟨by decide +kernel, ?_⟩
      repeat (first | refine ⟨_, rfl, rfl, List.nodup_nil, ?_⟩ | refine ⟨_, rfl, Nat.le_of_ble_eq_true rfl, ?_⟩ | refine ⟨_, rfl, ?_⟩ | refine ⟨_, _, rfl, rfl, ?_⟩ | refine ⟨_, _, _, rfl, rfl, by decide +kernel, ?_⟩ | refine Or.inl ⟨_, rfl, ?_⟩ | refine Or.inr ⟨_, rfl, ?_⟩ | refine Or.inl ⟨_, _, rfl, rfl, ?_⟩ | refine ⟨_, _, rfl, ?_⟩ | refine ⟨rfl, ?_⟩ | refine ⟨⟨_, rfl⟩, ?_⟩ | refine Or.inl ⟨_, _, _, rfl, rfl, rfl, ?_⟩ | refine ⟨_, _, _, rfl, rfl, ?_⟩)
      refine ⟨_, _, _, _, dec (c0 x laps) z, true, rfl, hg, ?_⟩
      repeat (first | refine ⟨_, rfl, rfl, List.nodup_nil, ?_⟩ | refine ⟨_, rfl, Nat.le_of_ble_eq_true rfl, ?_⟩ | refine ⟨_, rfl, ?_⟩ | refine ⟨_, _, rfl, rfl, ?_⟩ | refine ⟨_, _, _, rfl, rfl, by decide +kernel, ?_⟩ | refine Or.inl ⟨_, rfl, ?_⟩ | refine Or.inr ⟨_, rfl, ?_⟩ | refine Or.inl ⟨_, _, rfl, rfl, ?_⟩ | refine ⟨_, _, rfl, ?_⟩ | refine ⟨rfl, ?_⟩ | refine ⟨⟨_, rfl⟩, ?_⟩ | refine Or.inl ⟨_, _, _, rfl, rfl, rfl, ?_⟩ | refine ⟨_, _, _, rfl, rfl, ?_⟩)
      refine ⟨_, teq_strs (ys := []) (fun y hy => (hg.good y (List.mem_filter.mp (List.mem_filter.mp hy).1).1).ok) (by simp), ?_⟩
      repeat (first | refine ⟨_, rfl, rfl, List.nodup_nil, ?_⟩ | refine ⟨_, rfl, Nat.le_of_ble_eq_true rfl, ?_⟩ | refine ⟨_, rfl, ?_⟩ | refine ⟨_, _, rfl, rfl, ?_⟩ | refine ⟨_, _, _, rfl, rfl, by decide +kernel, ?_⟩ | refine Or.inl ⟨_, rfl, ?_⟩ | refine Or.inr ⟨_, rfl, ?_⟩ | refine Or.inl ⟨_, _, rfl, rfl, ?_⟩ | refine ⟨_, _, rfl, ?_⟩ | refine ⟨rfl, ?_⟩ | refine ⟨⟨_, rfl⟩, ?_⟩ | refine Or.inl ⟨_, _, _, rfl, rfl, rfl, ?_⟩ | refine ⟨_, _, _, rfl, rfl, ?_⟩)
      refine iteTq (by rw [hne _ hpos]; rfl) ?_
      repeat (first | refine ⟨_, rfl, rfl, List.nodup_nil, ?_⟩ | refine ⟨_, rfl, Nat.le_of_ble_eq_true rfl, ?_⟩ | refine ⟨_, rfl, ?_⟩ | refine ⟨_, _, rfl, rfl, ?_⟩ | refine ⟨_, _, _, rfl, rfl, by decide +kernel, ?_⟩ | refine Or.inl ⟨_, rfl, ?_⟩ | refine Or.inr ⟨_, rfl, ?_⟩ | refine Or.inl ⟨_, _, rfl, rfl, ?_⟩ | refine ⟨_, _, rfl, ?_⟩ | refine ⟨rfl, ?_⟩ | refine ⟨⟨_, rfl⟩, ?_⟩ | refine Or.inl ⟨_, _, _, rfl, rfl, rfl, ?_⟩ | refine ⟨_, _, _, rfl, rfl, ?_⟩)
      refine ⟨hps, ?_⟩
      refine hN _ ⟨ps ++ [z], some (false, .str z), some (false, bagN (oth ms x) (dec (c0 x laps) z)), by rw [← hp]; simp, ?_⟩
      exact congrArg (fun t => [some (false, strsT ms), some (false, .str x), some (false, listsT ms (LL x laps)), some (false, .str x), some (false, lostT C_Lost ms x x laps), some (true, t), some (false, .str z), some (false, bagN (oth ms x) (dec (c0 x laps) z))]) (show T.lst (ps.map T.str ++ [.str z]) = strsT (ps ++ [z]) by simp [strsT])
end
end Q
end

section
set_option maxRecDepth 100000
set_option maxHeartbeats 2000000
namespace Q
open PySem L2
section
variable {P : Program} {w : World} {K : PySem.W.Frag} {mg : Str → Option Value} {base : Heap}
/-- the first whose turn it is -/
def pick (w : Str → Nat) : List Str → Nat → Option (Str × Nat)
  | [], _ => none
  | o :: os, n => if n < w o then some (o, n) else pick w os (n - w o)
theorem pick_some {w : Str → Nat} : ∀ {os : List Str} {n : Nat}, n < (os.map w).sum → ∃ o m, pick w os n = some (o, m) ∧ o ∈ os ∧ m < w o
  | [], n, h => by simp at h
  | o :: os, n, h => by
    unfold pick
    by_cases e : n < w o
    · exact ⟨o, n, by rw [if_pos e], List.mem_cons_self, e⟩
    · rw [List.map_cons, List.sum_cons] at h
      obtain ⟨p, m, h1, h2, h3⟩ := pick_some (w := w) (os := os) (n := n - w o) (by omega)
      exact ⟨p, m, by rw [if_neg e]; exact h1, List.mem_cons_of_mem _ h2, h3⟩
/-- the recovery with a number -/
def unr (ms : List Str) (f x : Str) : Nat → (Str → Nat) → List Str → Nat → List Str
  | 0, _, found, _ => found
  | k + 1, c, found, n =>
    if tot (oth ms x) c < 2 ∧ n = 0 then found else
      match pick (fun o => frm (oth ms x) (dec c o)) (nxt ms f x c (decide (found = []))) (if tot (oth ms x) c < 2 then n - 1 else n) with
      | none => found
      | some (o, m) => unr ms f x k (dec c o) (found ++ [o]) m
/-- how many there are from here -/
def whole (ms : List Str) (f x : Str) (c : Str → Nat) (found : List Str) : Nat := if found = [] then frmT ms f x c else frm (oth ms x) c
theorem M_zero {ns : List Str} {c : Str → Nat} (h : tot ns c = 0) : M ns c = 1 := by
  have h1 := M_le ns c
  have h2 := M_pos ns c
  rw [h] at h1
  have : fac 0 = 1 := rfl
  omega
theorem nxt_false (ms : List Str) (f x : Str) (c : Str → Nat) : nxt ms f x c false = (oth ms x).filter fun o => decide (0 < c o) := by
  unfold nxt
  simp
theorem sum_mul2 (l : List Str) (g : Str → Nat) : (l.map fun o => g o * 2).sum = (l.map g).sum * 2 := by
  induction l with
  | nil => rfl
  | cons a l ih => simp [ih, Nat.add_mul]
/-- what is behind one step -/
theorem frm_rec {ms : List Str} {f x : Str} {c : Str → Nat} (nd : (oth ms x).Nodup) (h : 0 < tot (oth ms x) c) : frm (oth ms x) c = (if tot (oth ms x) c < 2 then 1 else 0) + ((nxt ms f x c false).map fun o => frm (oth ms x) (dec c o)).sum := by
  rw [nxt_false]
  have hr := M_rec nd h
  have hd : ∀ o ∈ (oth ms x).filter (fun o => decide (0 < c o)), tot (oth ms x) (dec c o) + 1 = tot (oth ms x) c := fun o ho => by
    have := List.mem_filter.mp ho
    exact tot_dec nd this.1 (by simpa using this.2)
  by_cases h2 : tot (oth ms x) c < 2
  · have e1 : (((oth ms x).filter fun o => decide (0 < c o)).map fun o => frm (oth ms x) (dec c o)) = ((oth ms x).filter fun o => decide (0 < c o)).map fun o => M (oth ms x) (dec c o) := List.map_congr_left fun o ho => by
      have := hd o ho
      unfold frm
      rw [if_pos (by omega)]
      omega
    rw [e1, hr, if_pos h2]
    have hM : M (oth ms x) c = 1 := by
      have h3 := M_le (oth ms x) c
      have h4 := M_pos (oth ms x) c
      have h5 : tot (oth ms x) c = 1 := by omega
      rw [h5] at h3
      have : fac 1 = 1 := rfl
      omega
    unfold frm
    rw [hM, if_neg (by omega)]
  · have e1 : (((oth ms x).filter fun o => decide (0 < c o)).map fun o => frm (oth ms x) (dec c o)) = ((oth ms x).filter fun o => decide (0 < c o)).map fun o => M (oth ms x) (dec c o) * 2 := List.map_congr_left fun o ho => by
      have := hd o ho
      unfold frm
      rw [if_neg (by omega)]
    rw [e1, sum_mul2, hr, if_neg h2]
    unfold frm
    rw [if_neg (by omega)]
    omega
def k_nth_recovery (C_Lost : Addr) : CT := fun us Q => ∃ ms f x laps n, us = [strsT ms, .str f, listsT ms (LL x laps), .str x, .int (n : Nat)] ∧ LawOk ms f x laps ∧ n < frmT ms f x (c0 f laps) ∧ ∀ fl, Q (fl, listsT ms fun m => if m = x then unr ms f x (tot (oth ms x) (c0 f laps) + 1) (c0 f laps) [] n else LL x laps m)
theorem ok_nth_recovery {f : Addr} {fd : FuncData} {C_Lost : Addr} (B : Blt mg) (TX : Txt K mg C_Lost) (G_need_lost : Callee P w K mg base "need_lost" 5 4 (rc k_need_lost)) (G_Lost : CalleeC P w K mg base "Lost" C_Lost 3 5 (k_Lostzz_initzz C_Lost)) (G_Lost_next_names : CalleeM P w K mg base C_Lost "next_names" 1 3 (rc (k_Lost_next_names C_Lost))) (G_Lost_without : CalleeM P w K mg base C_Lost "without" 1 3 (rc (k_Lost_without C_Lost))) (G_Lost_after : CalleeM P w K mg base C_Lost "after" 3 3 (rc (k_Lost_after C_Lost))) (G_Lost_total : CalleeM P w K mg base C_Lost "total" 5 1 (rc (k_Lost_total C_Lost))) (G_with_list : Callee P w K mg base "with_list" 1 4 (rc k_with_list)) (F : Fun K "nth_recovery" "nth_recovery" s_nth_recovery f fd) : FnOk P w K mg base CX0 6 f fd ["members", "first", "lists", "member", "number"] (spOf K 5 (rc (k_nth_recovery C_Lost))) := by
  refine fn_r (k := 5) F sc_nth_recovery rfl fun cdv A outer s H E hr => ⟨_, (qss_cons (qs_expr (q_callC G_need_lost hr (by decide) rfl (qa_cons (qe_var (pv 0)) (qa_cons (qe_var (pv 1)) (qa_cons (qe_var (pv 2)) (qa_cons (qe_var (pv 3)) qa_nil))))))
      (qss_cons (qs_setF (ps_set (i := 5) sc_nth_recovery.nd rfl (by first | exact Or.inl rfl | exact Or.inr rfl) (q_makeC G_Lost hr (by decide) rfl (qa_cons (qe_var (pv 0)) (qa_cons (qe_var (pv 1)) (qa_cons (qe_var (pv 2)) (qa_cons (qe_var (pv 3)) qa_nil)))))) (hp := by decide))
      (qss_cons (qs_if (QW.qt (qw_or (qt_not (qt_val (q_isi rfl B.isinstance (qa_cons (qe_var (pv 4)) (qa_cons (qe_c (pe_bltn (v := .ty "int") rfl B.int rfl rfl)) qa_nil))))) (qw_or (qt_val (q_isi rfl B.isinstance (qa_cons (qe_var (pv 4)) (qa_cons (qe_c (pe_bltn (v := .ty "bool") rfl B.bool rfl rfl)) qa_nil)))) (qw_or1 (qt_not (qt_chain qc_le qc_lt (qe_c pe_int) (qe_var (pv 4)) (q_methC0 G_Lost_total TX.cls_Lost hr (qe_var (pv 5)) (by decide)))))))) (qss_one qs_never) qss_nil)
      (qss_cons (qs_par (bs := [true, false]) (ps_par (i := 6) (j := 7) rfl sc_nth_recovery.nd rfl rfl (by decide) rfl rfl (qa_cons (q_fld (qe_var (pv 5)) TX.cls_Lost TX.na_Lost_bag) (qa_cons (q_lstO qa_nil) qa_nil)) rfl) (hp := by decide))
      (qss_one (qs_while PassesOwn.never (qt_val (qe_c pe_bl)) (qss_cons (qs_if (qt_cmp qc_lt (q_sumV rfl rfl B.sum (qe_var (pv 6))) (qe_c pe_int) (by rfl)) (qss_cons (qs_if (qt_cmp (qc_eq (Room.hu hr)) (qe_var (pv 4)) (qe_c pe_int) (by rfl)) (qss_one (qs_ret (q_callC G_with_list hr (by decide) rfl (qa_cons (qe_var (pv 0)) (qa_cons (qe_var (pv 2)) (qa_cons (qe_var (pv 3)) (qa_cons (qe_share (pv 7)) qa_nil))))))) qss_nil)
      (qss_one (qs_aug (ps_aug (i := 4) sc_nth_recovery.nd rfl (by first | exact Or.inl rfl | exact Or.inr rfl) (qe_c pe_int) ip_sub) br_ip_sub (hp := by decide)))) qss_nil)
      (qss_cons (qs_for PassesOwn.never rfl (qi_list (q_quiet (q_methC G_Lost_next_names TX.cls_Lost hr (qe_var (pv 5)) (qa_cons (qe_var (pv 6)) (qa_cons (q_cmp (qc_eq (Room.hu hr)) (qe_var (pv 7)) (q_lstO qa_nil) (by rfl)) qa_nil)) (by decide)))) (gq_name (pg_name (i := 8) sc_nth_recovery.nd rfl (by first | exact Or.inl rfl | exact Or.inr rfl))) (qss_cons (qs_setF (ps_set (i := 9) sc_nth_recovery.nd rfl (by first | exact Or.inl rfl | exact Or.inr rfl) (q_methC G_Lost_after TX.cls_Lost hr (qe_var (pv 5)) (qa_cons (qe_var (pv 6)) (qa_cons (qe_var (pv 8)) qa_nil)) (by decide))) (hp := by decide))
      (qss_cons (qs_if (qt_cmp qc_lt (qe_var (pv 4)) (qe_var (pv 9)) (by rfl)) (qss_one qs_break) qss_nil)
      (qss_one (qs_aug (ps_aug (i := 4) sc_nth_recovery.nd rfl (by first | exact Or.inl rfl | exact Or.inr rfl) (qe_var (pv 9)) ip_sub) br_ip_sub (hp := by decide))))) (hpn := by decide))
      (qss_cons (qs_expr (q_lop PySem.F.slot_list_append PySem.F.type_list_append mt_append lop_append (qp_slot (pv 7)) (qa_cons (qe_var (pv 8)) qa_nil)))
      (qss_one (qs_setF (ps_set (i := 6) sc_nth_recovery.nd rfl (by first | exact Or.inl rfl | exact Or.inr rfl) (q_methC G_Lost_without TX.cls_Lost hr (qe_var (pv 5)) (qa_cons (qe_var (pv 6)) (qa_cons (qe_var (pv 8)) qa_nil)) (by decide))) (hp := by decide)))))))))))), ?_⟩
  -- names: 0 members, 1 first, 2 lists, 3 member, 4 number, 5 lost, 6 bag, 7 found, 8 one, 9 many
  rintro us Q hl ⟨ms, f, x, laps, n, rfl, hg, hn, q⟩
  repeat (first | refine ⟨_, rfl, rfl, List.nodup_nil, ?_⟩ | refine ⟨_, rfl, Nat.le_of_ble_eq_true rfl, ?_⟩ | refine ⟨_, rfl, ?_⟩ | refine ⟨_, _, rfl, rfl, ?_⟩ | refine ⟨_, _, _, rfl, rfl, by decide +kernel, ?_⟩ | refine Or.inl ⟨_, rfl, ?_⟩ | refine Or.inr ⟨_, rfl, ?_⟩ | refine Or.inl ⟨_, _, rfl, rfl, ?_⟩ | refine ⟨_, _, rfl, ?_⟩ | refine ⟨rfl, ?_⟩ | refine ⟨⟨_, rfl⟩, ?_⟩ | refine Or.inl ⟨_, _, _, rfl, rfl, rfl, ?_⟩ | refine ⟨_, _, _, rfl, rfl, ?_⟩)
  refine ⟨_, _, _, _, rfl, hg.ls, hg.hf, hg.hx, by simp [LL], ?_⟩
  repeat (first | refine ⟨_, rfl, rfl, List.nodup_nil, ?_⟩ | refine ⟨_, rfl, Nat.le_of_ble_eq_true rfl, ?_⟩ | refine ⟨_, rfl, ?_⟩ | refine ⟨_, _, rfl, rfl, ?_⟩ | refine ⟨_, _, _, rfl, rfl, by decide +kernel, ?_⟩ | refine Or.inl ⟨_, rfl, ?_⟩ | refine Or.inr ⟨_, rfl, ?_⟩ | refine Or.inl ⟨_, _, rfl, rfl, ?_⟩ | refine ⟨_, _, rfl, ?_⟩ | refine ⟨rfl, ?_⟩ | refine ⟨⟨_, rfl⟩, ?_⟩ | refine Or.inl ⟨_, _, _, rfl, rfl, rfl, ?_⟩ | refine ⟨_, _, _, rfl, rfl, ?_⟩)
  refine ⟨ms, f, x, laps, rfl, hg, rfl, _, rfl, ?_⟩
  repeat (first | refine ⟨_, rfl, rfl, List.nodup_nil, ?_⟩ | refine ⟨_, rfl, Nat.le_of_ble_eq_true rfl, ?_⟩ | refine ⟨_, rfl, ?_⟩ | refine ⟨_, _, rfl, rfl, ?_⟩ | refine ⟨_, _, _, rfl, rfl, by decide +kernel, ?_⟩ | refine Or.inl ⟨_, rfl, ?_⟩ | refine Or.inr ⟨_, rfl, ?_⟩ | refine Or.inl ⟨_, _, rfl, rfl, ?_⟩ | refine ⟨_, _, rfl, ?_⟩ | refine ⟨rfl, ?_⟩ | refine ⟨⟨_, rfl⟩, ?_⟩ | refine Or.inl ⟨_, _, _, rfl, rfl, rfl, ?_⟩ | refine ⟨_, _, _, rfl, rfl, ?_⟩)
  refine ⟨by decide +kernel, ?_⟩
  repeat (first | refine ⟨_, rfl, rfl, List.nodup_nil, ?_⟩ | refine ⟨_, rfl, Nat.le_of_ble_eq_true rfl, ?_⟩ | refine ⟨_, rfl, ?_⟩ | refine ⟨_, _, rfl, rfl, ?_⟩ | refine ⟨_, _, _, rfl, rfl, by decide +kernel, ?_⟩ | refine Or.inl ⟨_, rfl, ?_⟩ | refine Or.inr ⟨_, rfl, ?_⟩ | refine Or.inl ⟨_, _, rfl, rfl, ?_⟩ | refine ⟨_, _, rfl, ?_⟩ | refine ⟨rfl, ?_⟩ | refine ⟨⟨_, rfl⟩, ?_⟩ | refine Or.inl ⟨_, _, _, rfl, rfl, rfl, ?_⟩ | refine ⟨_, _, _, rfl, rfl, ?_⟩)
  refine ⟨_, _, _, _, rfl, hg, ?_⟩
  repeat (first | refine ⟨_, rfl, rfl, List.nodup_nil, ?_⟩ | refine ⟨_, rfl, Nat.le_of_ble_eq_true rfl, ?_⟩ | refine ⟨_, rfl, ?_⟩ | refine ⟨_, _, rfl, rfl, ?_⟩ | refine ⟨_, _, _, rfl, rfl, by decide +kernel, ?_⟩ | refine Or.inl ⟨_, rfl, ?_⟩ | refine Or.inr ⟨_, rfl, ?_⟩ | refine Or.inl ⟨_, _, rfl, rfl, ?_⟩ | refine ⟨_, _, rfl, ?_⟩ | refine ⟨rfl, ?_⟩ | refine ⟨⟨_, rfl⟩, ?_⟩ | refine Or.inl ⟨_, _, _, rfl, rfl, rfl, ?_⟩ | refine ⟨_, _, _, rfl, rfl, ?_⟩)
  refine iteFq (by simp; omega) ?_
  repeat (first | refine ⟨_, rfl, rfl, List.nodup_nil, ?_⟩ | refine ⟨_, rfl, Nat.le_of_ble_eq_true rfl, ?_⟩ | refine ⟨_, rfl, ?_⟩ | refine ⟨_, _, rfl, rfl, ?_⟩ | refine ⟨_, _, _, rfl, rfl, by decide +kernel, ?_⟩ | refine Or.inl ⟨_, rfl, ?_⟩ | refine Or.inr ⟨_, rfl, ?_⟩ | refine Or.inl ⟨_, _, rfl, rfl, ?_⟩ | refine ⟨_, _, rfl, ?_⟩ | refine ⟨rfl, ?_⟩ | refine ⟨⟨_, rfl⟩, ?_⟩ | refine Or.inl ⟨_, _, _, rfl, rfl, rfl, ?_⟩ | refine ⟨_, _, _, rfl, rfl, ?_⟩)
  have e0 : frzM [true, false] [(false, bagN (oth ms x) (c0 f laps)), mkR []] = [(false, bagN (oth ms x) (c0 f laps)), (true, strsT [])] := rfl
  have ht := hg.tot
  let W : Nat → Env → Prop := fun k e => ∃ c found n' o8 o9, k = tot (oth ms x) c ∧ e = [some (false, strsT ms), some (false, .str f), some (false, listsT ms (LL x laps)), some (false, .str x), some (false, .int (n' : Nat)), some (false, lostT C_Lost ms f x laps), some (false, bagN (oth ms x) c), some (true, strsT found), o8, o9] ∧ n' < whole ms f x c found ∧ (found = [] → 2 ≤ tot (oth ms x) c) ∧ (∀ g ∈ found, goodN g) ∧ found.length + tot (oth ms x) c ≤ 56 ∧
    unr ms f x (tot (oth ms x) c + 1) c found n' = unr ms f x (tot (oth ms x) (c0 f laps) + 1) (c0 f laps) [] n
  refine ⟨W, ⟨_, c0 f laps, [], n, none, none, rfl, rfl, by simpa [whole] using hn, fun _ => ht.1, by simp, by simpa using ht.2, rfl⟩, ?_⟩
  rintro k e ⟨c, found, n', o8, o9, rfl, rfl, hv, hs2, hgf, hlen, hres⟩
  refine ⟨_, rfl, ?_⟩
  refine iteTq rfl ?_
  refine seqJ (fun e => ∃ n1 : Nat, e = [some (false, strsT ms), some (false, .str f), some (false, listsT ms (LL x laps)), some (false, .str x), some (false, .int n1), some (false, lostT C_Lost ms f x laps), some (false, bagN (oth ms x) c), some (true, strsT found), o8, o9] ∧ ¬ (tot (oth ms x) c < 2 ∧ n' = 0) ∧ n1 = if tot (oth ms x) c < 2 then n' - 1 else n') ?_ ?_
  rotate_left
  · intro N hN
    refine ⟨_, rfl, _, _, bagN_ints _ c, ?_⟩
    rw [bagN_sum]
    repeat (first | refine ⟨_, rfl, rfl, List.nodup_nil, ?_⟩ | refine ⟨_, rfl, Nat.le_of_ble_eq_true rfl, ?_⟩ | refine ⟨_, rfl, ?_⟩ | refine ⟨_, _, rfl, rfl, ?_⟩ | refine ⟨_, _, _, rfl, rfl, by decide +kernel, ?_⟩ | refine Or.inl ⟨_, rfl, ?_⟩ | refine Or.inr ⟨_, rfl, ?_⟩ | refine Or.inl ⟨_, _, rfl, rfl, ?_⟩ | refine ⟨_, _, rfl, ?_⟩ | refine ⟨rfl, ?_⟩ | refine ⟨⟨_, rfl⟩, ?_⟩ | refine Or.inl ⟨_, _, _, rfl, rfl, rfl, ?_⟩ | refine ⟨_, _, _, rfl, rfl, ?_⟩)
    by_cases h2 : tot (oth ms x) c < 2
    · refine iteTq (by simp; omega) ?_
      repeat (first | refine ⟨_, rfl, rfl, List.nodup_nil, ?_⟩ | refine ⟨_, rfl, Nat.le_of_ble_eq_true rfl, ?_⟩ | refine ⟨_, rfl, ?_⟩ | refine ⟨_, _, rfl, rfl, ?_⟩ | refine ⟨_, _, _, rfl, rfl, by decide +kernel, ?_⟩ | refine Or.inl ⟨_, rfl, ?_⟩ | refine Or.inr ⟨_, rfl, ?_⟩ | refine Or.inl ⟨_, _, rfl, rfl, ?_⟩ | refine ⟨_, _, rfl, ?_⟩ | refine ⟨rfl, ?_⟩ | refine ⟨⟨_, rfl⟩, ?_⟩ | refine Or.inl ⟨_, _, _, rfl, rfl, rfl, ?_⟩ | refine ⟨_, _, _, rfl, rfl, ?_⟩)
      by_cases h0 : n' = 0
      · refine iteTq (by simp [PyData.eqv, h0]) ?_
        repeat (first | refine ⟨_, rfl, rfl, List.nodup_nil, ?_⟩ | refine ⟨_, rfl, Nat.le_of_ble_eq_true rfl, ?_⟩ | refine ⟨_, rfl, ?_⟩ | refine ⟨_, _, rfl, rfl, ?_⟩ | refine ⟨_, _, _, rfl, rfl, by decide +kernel, ?_⟩ | refine Or.inl ⟨_, rfl, ?_⟩ | refine Or.inr ⟨_, rfl, ?_⟩ | refine Or.inl ⟨_, _, rfl, rfl, ?_⟩ | refine ⟨_, _, rfl, ?_⟩ | refine ⟨rfl, ?_⟩ | refine ⟨⟨_, rfl⟩, ?_⟩ | refine Or.inl ⟨_, _, _, rfl, rfl, rfl, ?_⟩ | refine ⟨_, _, _, rfl, rfl, ?_⟩)
        refine ⟨_, LL x laps, x, found, rfl, hg.ls, hg.hx, fun fl => ?_⟩
        have e2 : unr ms f x (tot (oth ms x) c + 1) c found n' = found := by
          unfold unr
          rw [if_pos ⟨h2, h0⟩]
        rw [e2] at hres
        have q2 := q fl
        rw [← hres] at q2
        exact q2
      · refine iteFq (by simp [PyData.eqv, h0]) ?_
        repeat (first | refine ⟨_, rfl, rfl, List.nodup_nil, ?_⟩ | refine ⟨_, rfl, Nat.le_of_ble_eq_true rfl, ?_⟩ | refine ⟨_, rfl, ?_⟩ | refine ⟨_, _, rfl, rfl, ?_⟩ | refine ⟨_, _, _, rfl, rfl, by decide +kernel, ?_⟩ | refine Or.inl ⟨_, rfl, ?_⟩ | refine Or.inr ⟨_, rfl, ?_⟩ | refine Or.inl ⟨_, _, rfl, rfl, ?_⟩ | refine ⟨_, _, rfl, ?_⟩ | refine ⟨rfl, ?_⟩ | refine ⟨⟨_, rfl⟩, ?_⟩ | refine Or.inl ⟨_, _, _, rfl, rfl, rfl, ?_⟩ | refine ⟨_, _, _, rfl, rfl, ?_⟩)
        refine hN _ ⟨n' - 1, ?_, fun h => h0 h.2, by rw [if_pos h2]⟩
        exact congrArg (fun z => [some (false, strsT ms), some (false, .str f), some (false, listsT ms (LL x laps)), some (false, .str x), some (false, .int z), some (false, lostT C_Lost ms f x laps), some (false, bagN (oth ms x) c), some (true, strsT found), o8, o9]) (show (n' : Int) - 1 = ((n' - 1 : Nat) : Int) by omega)
    · refine iteFq (by simp; omega) ?_
      exact hN _ ⟨n', rfl, fun h => h2 h.1, by rw [if_neg h2]⟩
  · rintro e ⟨n1, rfl, hnz, hn1⟩
    have hsum : n1 < ((nxt ms f x c (decide (found = []))).map fun o => frm (oth ms x) (dec c o)).sum := by
      unfold whole at hv
      by_cases hf : found = []
      · have := hs2 hf
        rw [if_pos hf] at hv
        rw [if_neg (by omega)] at hn1
        rw [hn1]
        simp only [hf, decide_true]
        exact hv
      · rw [if_neg hf] at hv
        have h0 : 0 < tot (oth ms x) c := by
          refine Nat.pos_of_ne_zero fun h0 => hnz ⟨by omega, ?_⟩
          unfold frm at hv
          rw [M_zero h0, if_pos h0] at hv
          omega
        rw [frm_rec (f := f) hg.ond h0] at hv
        simp only [hf, decide_false]
        by_cases h2 : tot (oth ms x) c < 2
        · rw [if_pos h2] at hv hn1
          have : n' ≠ 0 := fun e => hnz ⟨h2, e⟩
          omega
        · rw [if_neg h2] at hv hn1
          omega
    obtain ⟨o, m, hpk, ho, hm⟩ := pick_some hsum
    have hin : ∀ y ∈ nxt ms f x c (decide (found = [])), y ∈ oth ms x ∧ 0 < c y := fun y hy => by
      have h := List.mem_filter.mp hy
      have h2 := h.2
      simp only [Bool.and_eq_true, decide_eq_true_eq] at h2
      exact ⟨h.1, h2.1⟩
    have ho1 := (hin o ho).1
    have ho2 := (hin o ho).2
    have hd := tot_dec hg.ond ho1 ho2
    repeat (first | refine ⟨_, rfl, rfl, List.nodup_nil, ?_⟩ | refine ⟨_, rfl, Nat.le_of_ble_eq_true rfl, ?_⟩ | refine ⟨_, rfl, ?_⟩ | refine ⟨_, _, rfl, rfl, ?_⟩ | refine ⟨_, _, _, rfl, rfl, by decide +kernel, ?_⟩ | refine Or.inl ⟨_, rfl, ?_⟩ | refine Or.inr ⟨_, rfl, ?_⟩ | refine Or.inl ⟨_, _, rfl, rfl, ?_⟩ | refine ⟨_, _, rfl, ?_⟩ | refine ⟨rfl, ?_⟩ | refine ⟨⟨_, rfl⟩, ?_⟩ | refine Or.inl ⟨_, _, _, rfl, rfl, rfl, ?_⟩ | refine ⟨_, _, _, rfl, rfl, ?_⟩)
    refine ⟨by decide +kernel, ?_⟩
    repeat (first | refine ⟨_, rfl, rfl, List.nodup_nil, ?_⟩ | refine ⟨_, rfl, Nat.le_of_ble_eq_true rfl, ?_⟩ | refine ⟨_, rfl, ?_⟩ | refine ⟨_, _, rfl, rfl, ?_⟩ | refine ⟨_, _, _, rfl, rfl, by decide +kernel, ?_⟩ | refine Or.inl ⟨_, rfl, ?_⟩ | refine Or.inr ⟨_, rfl, ?_⟩ | refine Or.inl ⟨_, _, rfl, rfl, ?_⟩ | refine ⟨_, _, rfl, ?_⟩ | refine ⟨rfl, ?_⟩ | refine ⟨⟨_, rfl⟩, ?_⟩ | refine Or.inl ⟨_, _, _, rfl, rfl, rfl, ?_⟩ | refine ⟨_, _, _, rfl, rfl, ?_⟩)
    refine ⟨_, teq_strs (ys := []) (fun y hy => (hgf y hy).ok) (by simp), ?_⟩
    repeat (first | refine ⟨_, rfl, rfl, List.nodup_nil, ?_⟩ | refine ⟨_, rfl, Nat.le_of_ble_eq_true rfl, ?_⟩ | refine ⟨_, rfl, ?_⟩ | refine ⟨_, _, rfl, rfl, ?_⟩ | refine ⟨_, _, _, rfl, rfl, by decide +kernel, ?_⟩ | refine Or.inl ⟨_, rfl, ?_⟩ | refine Or.inr ⟨_, rfl, ?_⟩ | refine Or.inl ⟨_, _, rfl, rfl, ?_⟩ | refine ⟨_, _, rfl, ?_⟩ | refine ⟨rfl, ?_⟩ | refine ⟨⟨_, rfl⟩, ?_⟩ | refine Or.inl ⟨_, _, _, rfl, rfl, rfl, ?_⟩ | refine ⟨_, _, _, rfl, rfl, ?_⟩)
    refine ⟨_, _, _, _, c, decide (found = []), rfl, hg, ?_⟩
    refine ⟨rfl, _, rfl, ?_⟩
    refine for_recB T.str (fun xs e => ∃ (n2 : Nat) (o8 o9 : Option R), e = [some (false, strsT ms), some (false, .str f), some (false, listsT ms (LL x laps)), some (false, .str x), some (false, .int n2), some (false, lostT C_Lost ms f x laps), some (false, bagN (oth ms x) c), some (true, strsT found), o8, o9] ∧ (∀ y ∈ xs, y ∈ oth ms x ∧ 0 < c y) ∧ pick (fun o => frm (oth ms x) (dec c o)) xs n2 = some (o, m)) (fun e => ∃ o9 : Option R, e = [some (false, strsT ms), some (false, .str f), some (false, listsT ms (LL x laps)), some (false, .str x), some (false, .int m), some (false, lostT C_Lost ms f x laps), some (false, bagN (oth ms x) c), some (true, strsT found), some (false, .str o), o9]) ?_ ?_ ?_ (nxt ms f x c (decide (found = []))) _ ⟨n1, o8, o9, rfl, hin, hpk⟩
    · rintro e ⟨n2, o8, o9, rfl, _, h⟩
      simp [pick] at h
    · rintro y ys e N Bk ⟨n2, o8, o9, rfl, hy, h⟩ hN hB
      have hy1 := hy y List.mem_cons_self
      repeat (first | refine ⟨_, rfl, rfl, List.nodup_nil, ?_⟩ | refine ⟨_, rfl, Nat.le_of_ble_eq_true rfl, ?_⟩ | refine ⟨_, rfl, ?_⟩ | refine ⟨_, _, rfl, rfl, ?_⟩ | refine ⟨_, _, _, rfl, rfl, by decide +kernel, ?_⟩ | refine Or.inl ⟨_, rfl, ?_⟩ | refine Or.inr ⟨_, rfl, ?_⟩ | refine Or.inl ⟨_, _, rfl, rfl, ?_⟩ | refine ⟨_, _, rfl, ?_⟩ | refine ⟨rfl, ?_⟩ | refine ⟨⟨_, rfl⟩, ?_⟩ | refine Or.inl ⟨_, _, _, rfl, rfl, rfl, ?_⟩ | refine ⟨_, _, _, rfl, rfl, ?_⟩)
      refine ⟨by decide +kernel, ?_⟩
      repeat (first | refine ⟨_, rfl, rfl, List.nodup_nil, ?_⟩ | refine ⟨_, rfl, Nat.le_of_ble_eq_true rfl, ?_⟩ | refine ⟨_, rfl, ?_⟩ | refine ⟨_, _, rfl, rfl, ?_⟩ | refine ⟨_, _, _, rfl, rfl, by decide +kernel, ?_⟩ | refine Or.inl ⟨_, rfl, ?_⟩ | refine Or.inr ⟨_, rfl, ?_⟩ | refine Or.inl ⟨_, _, rfl, rfl, ?_⟩ | refine ⟨_, _, rfl, ?_⟩ | refine ⟨rfl, ?_⟩ | refine ⟨⟨_, rfl⟩, ?_⟩ | refine Or.inl ⟨_, _, _, rfl, rfl, rfl, ?_⟩ | refine ⟨_, _, _, rfl, rfl, ?_⟩)
      refine ⟨_, _, _, _, c, y, rfl, hg, hy1.1, hy1.2, by omega, ?_⟩
      repeat (first | refine ⟨_, rfl, rfl, List.nodup_nil, ?_⟩ | refine ⟨_, rfl, Nat.le_of_ble_eq_true rfl, ?_⟩ | refine ⟨_, rfl, ?_⟩ | refine ⟨_, _, rfl, rfl, ?_⟩ | refine ⟨_, _, _, rfl, rfl, by decide +kernel, ?_⟩ | refine Or.inl ⟨_, rfl, ?_⟩ | refine Or.inr ⟨_, rfl, ?_⟩ | refine Or.inl ⟨_, _, rfl, rfl, ?_⟩ | refine ⟨_, _, rfl, ?_⟩ | refine ⟨rfl, ?_⟩ | refine ⟨⟨_, rfl⟩, ?_⟩ | refine Or.inl ⟨_, _, _, rfl, rfl, rfl, ?_⟩ | refine ⟨_, _, _, rfl, rfl, ?_⟩)
      unfold pick at h
      by_cases h3 : n2 < frm (oth ms x) (dec c y)
      · refine iteTq (by simpa using h3) ?_
        rw [if_pos h3] at h
        cases h
        exact hB _ ⟨_, rfl⟩
      · refine iteFq (by simpa using h3) ?_
        rw [if_neg h3] at h
        repeat (first | refine ⟨_, rfl, rfl, List.nodup_nil, ?_⟩ | refine ⟨_, rfl, Nat.le_of_ble_eq_true rfl, ?_⟩ | refine ⟨_, rfl, ?_⟩ | refine ⟨_, _, rfl, rfl, ?_⟩ | refine ⟨_, _, _, rfl, rfl, by decide +kernel, ?_⟩ | refine Or.inl ⟨_, rfl, ?_⟩ | refine Or.inr ⟨_, rfl, ?_⟩ | refine Or.inl ⟨_, _, rfl, rfl, ?_⟩ | refine ⟨_, _, rfl, ?_⟩ | refine ⟨rfl, ?_⟩ | refine ⟨⟨_, rfl⟩, ?_⟩ | refine Or.inl ⟨_, _, _, rfl, rfl, rfl, ?_⟩ | refine ⟨_, _, _, rfl, rfl, ?_⟩)
        refine hN _ ⟨n2 - frm (oth ms x) (dec c y), some (false, .str y), some (false, .int (frm (oth ms x) (dec c y) : Nat)), ?_, fun z hz => hy z (List.mem_cons_of_mem _ hz), h⟩
        exact congrArg (fun z => [some (false, strsT ms), some (false, .str f), some (false, listsT ms (LL x laps)), some (false, .str x), some (false, .int z), some (false, lostT C_Lost ms f x laps), some (false, bagN (oth ms x) c), some (true, strsT found), some (false, .str y), some (false, .int (frm (oth ms x) (dec c y) : Nat))]) (show (n2 : Int) - (frm (oth ms x) (dec c y) : Nat) = ((n2 - frm (oth ms x) (dec c y) : Nat) : Int) by omega)
    · rintro e ⟨o9, rfl⟩
      repeat (first | refine ⟨_, rfl, rfl, List.nodup_nil, ?_⟩ | refine ⟨_, rfl, Nat.le_of_ble_eq_true rfl, ?_⟩ | refine ⟨_, rfl, ?_⟩ | refine ⟨_, _, rfl, rfl, ?_⟩ | refine ⟨_, _, _, rfl, rfl, by decide +kernel, ?_⟩ | refine Or.inl ⟨_, rfl, ?_⟩ | refine Or.inr ⟨_, rfl, ?_⟩ | refine Or.inl ⟨_, _, rfl, rfl, ?_⟩ | refine ⟨_, _, rfl, ?_⟩ | refine ⟨rfl, ?_⟩ | refine ⟨⟨_, rfl⟩, ?_⟩ | refine Or.inl ⟨_, _, _, rfl, rfl, rfl, ?_⟩ | refine ⟨_, _, _, rfl, rfl, ?_⟩)
      refine ⟨by simp; omega, ?_⟩
      repeat (first | refine ⟨_, rfl, rfl, List.nodup_nil, ?_⟩ | refine ⟨_, rfl, Nat.le_of_ble_eq_true rfl, ?_⟩ | refine ⟨_, rfl, ?_⟩ | refine ⟨_, _, rfl, rfl, ?_⟩ | refine ⟨_, _, _, rfl, rfl, by decide +kernel, ?_⟩ | refine Or.inl ⟨_, rfl, ?_⟩ | refine Or.inr ⟨_, rfl, ?_⟩ | refine Or.inl ⟨_, _, rfl, rfl, ?_⟩ | refine ⟨_, _, rfl, ?_⟩ | refine ⟨rfl, ?_⟩ | refine ⟨⟨_, rfl⟩, ?_⟩ | refine Or.inl ⟨_, _, _, rfl, rfl, rfl, ?_⟩ | refine ⟨_, _, _, rfl, rfl, ?_⟩)
      refine ⟨by decide +kernel, ?_⟩
      repeat (first | refine ⟨_, rfl, rfl, List.nodup_nil, ?_⟩ | refine ⟨_, rfl, Nat.le_of_ble_eq_true rfl, ?_⟩ | refine ⟨_, rfl, ?_⟩ | refine ⟨_, _, rfl, rfl, ?_⟩ | refine ⟨_, _, _, rfl, rfl, by decide +kernel, ?_⟩ | refine Or.inl ⟨_, rfl, ?_⟩ | refine Or.inr ⟨_, rfl, ?_⟩ | refine Or.inl ⟨_, _, rfl, rfl, ?_⟩ | refine ⟨_, _, rfl, ?_⟩ | refine ⟨rfl, ?_⟩ | refine ⟨⟨_, rfl⟩, ?_⟩ | refine Or.inl ⟨_, _, _, rfl, rfl, rfl, ?_⟩ | refine ⟨_, _, _, rfl, rfl, ?_⟩)
      refine ⟨_, _, c, o, rfl, hg.ond, fun n hn => hg.good n (List.mem_filter.mp hn).1, Nat.le_trans hg.olen.2 (by decide), ho1, ho2, ?_⟩
      refine ⟨tot (oth ms x) (dec c o), by omega, dec c o, found ++ [o], m, some (false, .str o), o9, rfl, ?_, ?_, by simp, ?_, by simp; omega, ?_⟩
      · exact congrArg (fun t => [some (false, strsT ms), some (false, .str f), some (false, listsT ms (LL x laps)), some (false, .str x), some (false, .int (m : Nat)), some (false, lostT C_Lost ms f x laps), some (false, bagN (oth ms x) (dec c o)), some (true, t), some (false, .str o), o9]) (show T.lst (found.map T.str ++ [.str o]) = strsT (found ++ [o]) by simp [strsT])
      · unfold whole
        rw [if_neg (by simp)]
        exact hm
      · intro g hg'
        rcases List.mem_append.mp hg' with h | h
        · exact hgf g h
        · rw [List.mem_singleton.mp h]
          exact hg.good o (List.mem_filter.mp ho1).1
      · have e3 : unr ms f x (tot (oth ms x) c + 1) c found n' = unr ms f x (tot (oth ms x) c) (dec c o) (found ++ [o]) m := by
          conv => lhs; unfold unr
          rw [if_neg hnz, ← hn1, hpk]
        rw [← hres, e3, ← hd]
end
end Q
end

section
/-! plain lists: sorted strings, the least and the greatest recovery -/
namespace Q
open PySem L2
def leS (a b : Str) : Prop := a.cps.toList ≤ b.cps.toList
theorem leS_refl (a : Str) : leS a a := List.le_refl _
theorem leS_trans {a b c : Str} (h : leS a b) (k : leS b c) : leS a c := List.le_trans h k
theorem leS_anti {a b : Str} (h : leS a b) (k : leS b a) : a = b := by
  have e := List.le_antisymm h k
  cases a; cases b
  simp only [Str.mk.injEq]
  exact Array.toList_inj.mp e
theorem leS_of {a b : Str} (h : PySem.Spec.ltCps b.cps.toList a.cps.toList = false) : leS a b := by
  rw [PyProof.Rows.ltCps_eq] at h
  exact List.not_lt.mp (of_decide_eq_false h)
theorem rising_pw : ∀ (l : List Str) (p : Str), PyProof.Rows.risingS p l = true → (p :: l).Pairwise leS
  | [], p, _ => by simp
  | x :: r, p, h => by
    unfold PyProof.Rows.risingS at h
    simp only [Bool.and_eq_true, Bool.not_eq_true'] at h
    have ih := rising_pw r x h.2
    refine List.pairwise_cons.mpr ⟨fun y hy => ?_, ih⟩
    have h1 := leS_of h.1
    rcases List.mem_cons.mp hy with rfl | hy
    · exact h1
    · exact leS_trans h1 (List.rel_of_pairwise_cons ih hy)
theorem sorted_pw {l : List Str} (h : PyProof.Rows.sortedS l = true) : l.Pairwise leS := by
  cases l with
  | nil => simp
  | cons x r => exact rising_pw r x h
theorem eq_of_pw : ∀ {l k : List Str}, l.Pairwise leS → k.Pairwise leS → l.Perm k → l = k
  | [], k, _, _, h => by simpa using h.symm
  | a :: l, k, hl, hk, h => by
    cases k with
    | nil => simp at h
    | cons b k =>
      have hb : b ∈ a :: l := h.mem_iff.mpr List.mem_cons_self
      have ha : a ∈ b :: k := h.mem_iff.mp List.mem_cons_self
      have h1 : leS a b := by
        rcases List.mem_cons.mp hb with rfl | z
        · exact leS_refl _
        · exact List.rel_of_pairwise_cons hl z
      have h2 : leS b a := by
        rcases List.mem_cons.mp ha with rfl | z
        · exact leS_refl _
        · exact List.rel_of_pairwise_cons hk z
      have e := leS_anti h1 h2
      subst e
      rw [eq_of_pw hl.of_cons hk.of_cons (List.Perm.cons_inv h)]
/-- the names of a bag, in order -/
def asc (ns : List Str) (c : Str → Nat) : List Str := ns.flatMap fun o => List.replicate (c o) o
theorem asc_cons (a : Str) (ns : List Str) (c : Str → Nat) : asc (a :: ns) c = List.replicate (c a) a ++ asc ns c := rfl
theorem asc_len (ns : List Str) (c : Str → Nat) : (asc ns c).length = tot ns c := by
  unfold tot
  induction ns with
  | nil => rfl
  | cons a l ih => rw [asc_cons, List.length_append, List.length_replicate, ih]; rfl
theorem asc_mem {ns : List Str} {c : Str → Nat} {y : Str} (h : y ∈ asc ns c) : y ∈ ns := by
  obtain ⟨o, h1, h2⟩ := List.mem_flatMap.mp h
  rw [(List.mem_replicate.mp h2).2]
  exact h1
theorem asc_pw {ns : List Str} (c : Str → Nat) (h : ns.Pairwise leS) : (asc ns c).Pairwise leS := by
  induction ns with
  | nil => exact List.Pairwise.nil
  | cons a l ih =>
    rw [asc_cons]
    refine List.pairwise_append.mpr ⟨?_, ih h.of_cons, fun x hx y hy => ?_⟩
    · refine List.pairwise_replicate.mpr (.inr (leS_refl a))
    · rw [(List.mem_replicate.mp hx).2]
      exact List.rel_of_pairwise_cons h (asc_mem hy)
theorem asc_count {ns : List Str} (nd : ns.Nodup) (c : Str → Nat) (o : Str) : (asc ns c).count o = if o ∈ ns then c o else 0 := by
  induction ns with
  | nil => simp [asc]
  | cons a l ih =>
    obtain ⟨h1, h2⟩ := List.nodup_cons.mp nd
    rw [asc_cons, List.count_append, List.count_replicate, ih h2]
    by_cases e : a = o
    · subst e; simp [h1]
    · have e' : ¬ o = a := fun z => e z.symm
      simp [e, e']
theorem asc_congr {ns : List Str} {c d : Str → Nat} (h : ∀ o ∈ ns, c o = d o) : asc ns c = asc ns d := by
  induction ns with
  | nil => rfl
  | cons a l ih => rw [asc_cons, asc_cons, h a List.mem_cons_self, ih fun o ho => h o (List.mem_cons_of_mem _ ho)]
/-- sorted names are the bag's names in order -/
theorem sorted_asc {ns : List Str} {c : Str → Nat} {xs ys : List Str} (nd : ns.Nodup) (hp : ns.Pairwise leS) (hc : ∀ o, xs.count o = if o ∈ ns then c o else 0) (h1 : ys.Perm xs) (h2 : PyProof.Rows.sortedS ys = true) : ys = asc ns c := by
  refine eq_of_pw (sorted_pw h2) (asc_pw c hp) (h1.trans (List.perm_iff_count.mpr fun o => ?_))
  rw [hc, asc_count nd]
theorem erase_asc {ns : List Str} {c : Str → Nat} {o : Str} (nd : ns.Nodup) (hp : ns.Pairwise leS) (ho : o ∈ ns) (h0 : 0 < c o) : (asc ns c).erase o = asc ns (dec c o) := by
  refine eq_of_pw (List.Pairwise.sublist List.erase_sublist (asc_pw c hp)) (asc_pw _ hp) (List.perm_iff_count.mpr fun y => ?_)
  rw [asc_count nd]
  by_cases e : y = o
  · subst e
    rw [List.count_erase_self, asc_count nd, if_pos ho, if_pos ho]
    simp [dec]
  · rw [List.count_erase_of_ne (by simpa using e), asc_count nd]
    simp [dec, e]
/-- the first of the bag -/
theorem asc_first {c : Str → Nat} {o : Str} {r : List Str} : ∀ {ns : List Str}, ns.Nodup → (ns.filter fun o => decide (0 < c o)) = o :: r → asc ns c = o :: asc ns (dec c o)
  | [], _, h => by simp at h
  | a :: ns, nd, h => by
    obtain ⟨h1, h2⟩ := List.nodup_cons.mp nd
    by_cases e : 0 < c a
    · rw [List.filter_cons_of_pos (by simpa using e)] at h
      obtain ⟨rfl, _⟩ := List.cons.inj h
      obtain ⟨k, hk⟩ : ∃ k, c a = k + 1 := ⟨c a - 1, by omega⟩
      have e2 : asc ns (dec c a) = asc ns c := asc_congr fun y hy => by
        have : y ≠ a := fun z => h1 (z ▸ hy)
        simp [dec, this]
      rw [asc_cons, asc_cons, e2]
      have e3 : dec c a a = k := by simp [dec, hk]
      rw [hk, e3]
      rfl
    · rw [List.filter_cons_of_neg (by simpa using e)] at h
      have e0 : c a = 0 := by omega
      have ih := asc_first h2 h
      have hoa : o ≠ a := fun z => by
        have : o ∈ ns.filter fun o => decide (0 < c o) := by rw [h]; exact List.mem_cons_self
        exact h1 (z ▸ (List.mem_filter.mp this).1)
      have e3 : dec c o a = 0 := by simp [dec, Ne.symm hoa, e0]
      rw [asc_cons, asc_cons, e0, e3]
      exact ih
/-- the last of the bag -/
theorem asc_last {c : Str → Nat} {o : Str} : ∀ {ns : List Str} {r : List Str}, ns.Nodup → (ns.filter fun o => decide (0 < c o)) = r ++ [o] → asc ns c = asc ns (dec c o) ++ [o]
  | [], r, _, h => by simp at h
  | a :: ns, r, nd, h => by
    obtain ⟨h1, h2⟩ := List.nodup_cons.mp nd
    by_cases hf : (ns.filter fun o => decide (0 < c o)) = []
    · have hz : ∀ y ∈ ns, c y = 0 := fun y hy => by
        have := List.filter_eq_nil_iff.mp hf y hy
        simpa using this
      by_cases e : 0 < c a
      · rw [List.filter_cons_of_pos (by simpa using e), hf] at h
        have hr : r = [] := by
          cases r with
          | nil => rfl
          | cons b r => simp at h
        subst hr
        obtain ⟨rfl, _⟩ := List.cons.inj h
        have z1 : asc ns c = [] := by
          rw [asc_congr (d := fun _ => 0) hz]
          unfold asc
          simp
        have z2 : asc ns (dec c a) = [] := by
          rw [asc_congr (d := fun _ => 0) fun y hy => by simp [dec, hz y hy]]
          unfold asc
          simp
        obtain ⟨k, hk⟩ : ∃ k, c a = k + 1 := ⟨c a - 1, by omega⟩
        have e3 : dec c a a = k := by simp [dec, hk]
        rw [asc_cons, asc_cons, z1, z2, hk, e3]
        simp [List.replicate_succ']
      · rw [List.filter_cons_of_neg (by simpa using e), hf] at h
        simp at h
    · obtain ⟨r', p, hr'⟩ : ∃ r' p, (ns.filter fun o => decide (0 < c o)) = r' ++ [p] := ⟨_, _, (List.dropLast_concat_getLast hf).symm⟩
      have hpo : p = o := by
        by_cases e : 0 < c a
        · rw [List.filter_cons_of_pos (by simpa using e), hr', ← List.cons_append] at h
          exact (List.append_inj' h rfl).2 |> List.singleton_inj.mp
        · rw [List.filter_cons_of_neg (by simpa using e), hr'] at h
          exact (List.append_inj' h rfl).2 |> List.singleton_inj.mp
      subst hpo
      have ih := asc_last h2 hr'
      have hpa : p ≠ a := fun z => by
        have : p ∈ ns.filter fun o => decide (0 < c o) := by rw [hr']; simp
        exact h1 (z ▸ (List.mem_filter.mp this).1)
      have e3 : dec c p a = c a := by simp [dec, Ne.symm hpa]
      rw [asc_cons, asc_cons, e3, ih, List.append_assoc]
end Q
end

section
set_option maxRecDepth 100000
set_option maxHeartbeats 2000000
namespace Q
open PySem L2
theorem frm_pos (ns : List Str) (c : Str → Nat) : 0 < frm ns c := by
  unfold frm
  have := M_pos ns c
  split <;> omega
theorem flt_ne {ns : List Str} {c : Str → Nat} (h : 0 < tot ns c) : (ns.filter fun o => decide (0 < c o)) ≠ [] := fun e => by
  obtain ⟨o, h1, h2⟩ := dec_pos h
  have : o ∈ ns.filter fun o => decide (0 < c o) := List.mem_filter.mpr ⟨h1, by simpa using h2⟩
  rw [e] at this
  simp at this
theorem pick_last {w : Str → Nat} (hw : ∀ o, 0 < w o) : ∀ (r : List Str) (o : Str), pick w (r ++ [o]) (((r ++ [o]).map w).sum - 1) = some (o, w o - 1)
  | [], o => by
    have := hw o
    show (if ((([] ++ [o]).map w).sum - 1) < w o then some (o, (([] ++ [o]).map w).sum - 1) else pick w [] _) = _
    rw [if_pos (by simp; omega)]
    simp
  | a :: r, o => by
    have h1 := hw o
    have h2 := hw a
    have ih := pick_last hw r o
    have e : ((a :: r ++ [o]).map w).sum = w a + ((r ++ [o]).map w).sum := by simp
    have e2 : 0 < ((r ++ [o]).map w).sum := by simp; omega
    rw [List.cons_append]
    unfold pick
    rw [← List.cons_append, e, if_neg (by omega)]
    rw [show w a + ((r ++ [o]).map w).sum - 1 - w a = ((r ++ [o]).map w).sum - 1 by omega]
    exact ih
section
variable {ms : List Str} {f x : Str}
theorem unr_zero (nd : (oth ms x).Nodup) : ∀ (k : Nat) (c : Str → Nat) (found : List Str), tot (oth ms x) c < k → found ≠ [] → unr ms f x k c found 0 = found ++ (asc (oth ms x) c).dropLast
  | 0, c, found, h, _ => by omega
  | k + 1, c, found, h, hf => by
    unfold unr
    by_cases h2 : tot (oth ms x) c < 2
    · rw [if_pos ⟨h2, rfl⟩]
      have := asc_len (oth ms x) c
      have : (asc (oth ms x) c).dropLast = [] := by
        apply List.eq_nil_of_length_eq_zero
        rw [List.length_dropLast]; omega
      rw [this, List.append_nil]
    · rw [if_neg (fun z => h2 z.1), if_neg h2]
      simp only [hf, decide_false]
      rw [nxt_false]
      have hne := flt_ne (ns := oth ms x) (c := c) (by omega)
      obtain ⟨o, r, hor⟩ : ∃ o r, ((oth ms x).filter fun o => decide (0 < c o)) = o :: r := by
        cases e : (oth ms x).filter fun o => decide (0 < c o) with
        | nil => exact absurd e hne
        | cons o r => exact ⟨o, r, rfl⟩
      have hm : o ∈ (oth ms x).filter fun o => decide (0 < c o) := by rw [hor]; exact List.mem_cons_self
      have hd := tot_dec nd (List.mem_filter.mp hm).1 (by simpa using (List.mem_filter.mp hm).2)
      rw [hor]
      have hp : pick (fun o => frm (oth ms x) (dec c o)) (o :: r) 0 = some (o, 0) := by
        unfold pick
        rw [if_pos (frm_pos _ _)]
      rw [hp]
      show unr ms f x k (dec c o) (found ++ [o]) 0 = _
      rw [unr_zero nd k (dec c o) (found ++ [o]) (by omega) (by simp), asc_first nd hor]
      have hl := asc_len (oth ms x) (dec c o)
      rw [List.dropLast_cons_of_ne_nil (fun e => by rw [e] at hl; simp at hl; omega), List.append_assoc]
      rfl
theorem unr_last (nd : (oth ms x).Nodup) : ∀ (k : Nat) (c : Str → Nat) (found : List Str), tot (oth ms x) c < k → found ≠ [] → unr ms f x k c found (frm (oth ms x) c - 1) = found ++ (asc (oth ms x) c).reverse
  | 0, c, found, h, _ => by omega
  | k + 1, c, found, h, hf => by
    unfold unr
    by_cases h0 : tot (oth ms x) c = 0
    · have e1 : frm (oth ms x) c = 1 := by unfold frm; rw [M_zero h0, if_pos h0]
      rw [e1, if_pos ⟨by omega, rfl⟩]
      have := asc_len (oth ms x) c
      have : asc (oth ms x) c = [] := List.eq_nil_of_length_eq_zero (by omega)
      rw [this]
      simp
    · have hne := flt_ne (ns := oth ms x) (c := c) (by omega)
      have hrec := frm_rec (f := f) (c := c) nd (by omega)
      rw [nxt_false] at hrec
      obtain ⟨r, o, hro⟩ : ∃ r o, ((oth ms x).filter fun o => decide (0 < c o)) = r ++ [o] := ⟨_, _, (List.dropLast_concat_getLast hne).symm⟩
      have hm : o ∈ (oth ms x).filter fun o => decide (0 < c o) := by rw [hro]; simp
      have hd := tot_dec nd (List.mem_filter.mp hm).1 (by simpa using (List.mem_filter.mp hm).2)
      have hp := pick_last (w := fun o => frm (oth ms x) (dec c o)) (fun o => frm_pos _ _) r o
      have hs : 0 < ((r ++ [o]).map fun o => frm (oth ms x) (dec c o)).sum := by
        have := frm_pos (oth ms x) (dec c o)
        simp; omega
      rw [hro] at hrec
      have e1 : (if tot (oth ms x) c < 2 then frm (oth ms x) c - 1 - 1 else frm (oth ms x) c - 1) = ((r ++ [o]).map fun o => frm (oth ms x) (dec c o)).sum - 1 := by
        by_cases h2 : tot (oth ms x) c < 2
        · rw [if_pos h2] at hrec ⊢; omega
        · rw [if_neg h2] at hrec ⊢; omega
      have e2 : ¬ (tot (oth ms x) c < 2 ∧ frm (oth ms x) c - 1 = 0) := fun z => by
        rw [if_pos z.1] at hrec
        omega
      rw [if_neg e2, e1]
      simp only [hf, decide_false]
      rw [nxt_false, hro, hp]
      show unr ms f x k (dec c o) (found ++ [o]) (frm (oth ms x) (dec c o) - 1) = _
      rw [unr_last nd k (dec c o) (found ++ [o]) (by omega) (by simp), asc_last nd hro]
      simp
end
/-- the start where all may start -/
theorem nxt_all {ms : List Str} {x : Str} {c : Str → Nat} : nxt ms x x c true = (oth ms x).filter fun o => decide (0 < c o) := by
  unfold nxt
  refine List.filter_congr fun o ho => ?_
  simp [stOf, ho]
theorem all_zero {ms : List Str} {x : Str} {c : Str → Nat} (nd : (oth ms x).Nodup) (h : 2 ≤ tot (oth ms x) c) : unr ms x x (tot (oth ms x) c + 1) c [] 0 = (asc (oth ms x) c).dropLast := by
  unfold unr
  rw [if_neg (fun z => by omega), if_neg (by omega)]
  simp only [decide_true]
  rw [nxt_all]
  have hne := flt_ne (ns := oth ms x) (c := c) (by omega)
  obtain ⟨o, r, hor⟩ : ∃ o r, ((oth ms x).filter fun o => decide (0 < c o)) = o :: r := by
    cases e : (oth ms x).filter fun o => decide (0 < c o) with
    | nil => exact absurd e hne
    | cons o r => exact ⟨o, r, rfl⟩
  have hm : o ∈ (oth ms x).filter fun o => decide (0 < c o) := by rw [hor]; exact List.mem_cons_self
  have hd := tot_dec nd (List.mem_filter.mp hm).1 (by simpa using (List.mem_filter.mp hm).2)
  rw [hor]
  have hp : pick (fun o => frm (oth ms x) (dec c o)) (o :: r) 0 = some (o, 0) := by
    unfold pick
    rw [if_pos (frm_pos _ _)]
  rw [hp]
  show unr ms x x _ (dec c o) ([] ++ [o]) 0 = _
  rw [unr_zero nd _ (dec c o) ([] ++ [o]) (by omega) (by simp), asc_first nd hor]
  have hl := asc_len (oth ms x) (dec c o)
  rw [List.dropLast_cons_of_ne_nil (fun e => by rw [e] at hl; simp at hl; omega)]
  rfl
theorem all_whole {ms : List Str} {x : Str} {c : Str → Nat} (nd : (oth ms x).Nodup) (h : 2 ≤ tot (oth ms x) c) : frmT ms x x c = 2 * M (oth ms x) c := by
  have hrec := frm_rec (f := x) (c := c) nd (by omega)
  unfold frmT
  rw [nxt_all, ← nxt_false ms x x c]
  rw [if_neg (by omega)] at hrec
  have : frm (oth ms x) c = M (oth ms x) c * 2 := by unfold frm; rw [if_neg (by omega)]
  omega
theorem all_last {ms : List Str} {x : Str} {c : Str → Nat} (nd : (oth ms x).Nodup) (h : 2 ≤ tot (oth ms x) c) : unr ms x x (tot (oth ms x) c + 1) c [] (frmT ms x x c - 1) = (asc (oth ms x) c).reverse := by
  have hne := flt_ne (ns := oth ms x) (c := c) (by omega)
  obtain ⟨r, o, hro⟩ : ∃ r o, ((oth ms x).filter fun o => decide (0 < c o)) = r ++ [o] := ⟨_, _, (List.dropLast_concat_getLast hne).symm⟩
  have hm : o ∈ (oth ms x).filter fun o => decide (0 < c o) := by rw [hro]; simp
  have hd := tot_dec nd (List.mem_filter.mp hm).1 (by simpa using (List.mem_filter.mp hm).2)
  have hp := pick_last (w := fun o => frm (oth ms x) (dec c o)) (fun o => frm_pos _ _) r o
  unfold unr
  rw [if_neg (fun z => by omega), if_neg (by omega)]
  simp only [decide_true]
  unfold frmT
  rw [nxt_all, hro, hp]
  show unr ms x x _ (dec c o) ([] ++ [o]) (frm (oth ms x) (dec c o) - 1) = _
  rw [unr_last nd _ (dec c o) ([] ++ [o]) (by omega) (by simp), asc_last nd hro]
  simp
/-- .. where one starts -/
theorem nxt_one {ms : List Str} {f x : Str} {c : Str → Nat} (nd : (oth ms x).Nodup) (hf : f ∈ oth ms x) (hfx : f ≠ x) (h0 : 0 < c f) : nxt ms f x c true = [f] := by
  unfold nxt stOf
  rw [if_neg hfx]
  have e : ((oth ms x).filter fun o => decide (0 < c o) && (!true || decide (o ∈ [f]))) = (oth ms x).filter fun o => decide (o = f) := List.filter_congr fun o ho => by
    by_cases h : o = f
    · subst h; simp [h0]
    · simp [h]
  rw [e]
  revert hf nd
  generalize oth ms x = l
  intro nd hf
  induction l with
  | nil => simp at hf
  | cons a l ih =>
    obtain ⟨n1, n2⟩ := List.nodup_cons.mp nd
    by_cases e : a = f
    · subst e
      rw [List.filter_cons_of_pos (by simp)]
      congr 1
      rw [List.filter_eq_nil_iff]
      intro z hz
      simp
      intro e; subst e; exact n1 hz
    · rw [List.filter_cons_of_neg (by simpa using e)]
      rcases List.mem_cons.mp hf with z | z
      · exact absurd z.symm e
      · exact ih n2 z
theorem one_whole {ms : List Str} {f x : Str} {c : Str → Nat} (nd : (oth ms x).Nodup) (hf : f ∈ oth ms x) (hfx : f ≠ x) (h0 : 0 < c f) : frmT ms f x c = frm (oth ms x) (dec c f) := by
  unfold frmT
  rw [nxt_one nd hf hfx h0]
  simp
theorem one_step {ms : List Str} {f x : Str} {c : Str → Nat} {n : Nat} (nd : (oth ms x).Nodup) (hf : f ∈ oth ms x) (hfx : f ≠ x) (h0 : 0 < c f) (h : 2 ≤ tot (oth ms x) c) (hn : n < frm (oth ms x) (dec c f)) : unr ms f x (tot (oth ms x) c + 1) c [] n = unr ms f x (tot (oth ms x) c) (dec c f) [f] n := by
  conv => lhs; unfold unr
  rw [if_neg (fun z => by omega), if_neg (by omega)]
  simp only [decide_true]
  rw [nxt_one nd hf hfx h0]
  have hp : pick (fun o => frm (oth ms x) (dec c o)) [f] n = some (f, n) := by
    unfold pick
    rw [if_pos hn]
  rw [hp]
  rfl
end Q
end

section
set_option maxRecDepth 100000
set_option maxHeartbeats 4000000
namespace Q
open PySem L2
section
variable {P : Program} {w : World} {K : PySem.W.Frag} {mg : Str → Option Value} {base : Heap}
theorem log_lt {n : Nat} (h : n < 2 ^ 300) : n.log2 < 300 := by
  by_cases e : n = 0
  · subst e; decide
  · exact (Nat.log2_lt e).mpr h
theorem mulI {i j : Int} (hi : i.natAbs < 2 ^ 300) (hj : j.natAbs < 2 ^ 300) : CMulW i j := by
  have h1 := log_lt hi
  have h2 := log_lt hj
  unfold CMulW
  omega
theorem powI {i : Int} (hi : i.natAbs < 2 ^ 300) : CPowW i 3 := by
  have h1 := log_lt hi
  refine ⟨by decide, ?_⟩
  have : Builtin.Int.intBits i ≤ i.natAbs.log2 + 1 := by
    unfold Builtin.Int.intBits
    split <;> omega
  omega
/-- what a tin of draws holds -/
def tinT (a b t : Int) : T := .lst [.int a, .int b, .int t]
def k__law_tin : CT := fun us Q => ∃ ns : List Int, ∃ k : Nat, us = [.rd (ns.map T.int), .int k] ∧ k ≤ 64 ∧ ∀ a b, 0 ≤ a → 0 ≤ b → b < 2 ^ 200 → Q (true, tinT a b 0)
theorem ok__law_tin {f : Addr} {fd : FuncData} {C_Lost : Addr} (B : Blt mg) (TX : Txt K mg C_Lost)  (F : Fun K "_law_tin" "_law_tin" s__law_tin f fd) : FnOk P w K mg base CX0 1 f fd ["_law_script", "_law_k"] (spOf K 2 (rc k__law_tin)) := by
  refine fn_r (k := 0) F sc__law_tin rfl fun cdv A outer s H E hr => ⟨_, (qss_cons (qs_setF (ps_set (i := 2) sc__law_tin.nd rfl (by first | exact Or.inl rfl | exact Or.inr rfl) (q_if (qt_cmp qc_lt (qe_var (pv 1)) (q_len rfl B.len (qa_cons (qe_var (pv 0)) qa_nil)) (by rfl)) (q_ix (qe_var (pv 0)) (qe_var (pv 1))) (qe_c pe_int))) (hp := by decide))
      (qss_one (qs_ret (q_lstO (qa_cons (q_max rfl rfl B.max (qa_cons (qe_c pe_int) (qa_cons (q_sub (q_abs rfl B.abs (qa_cons (qe_var (pv 2)) qa_nil)) (q_pow (qe_c pe_int) (qe_c pe_int))) qa_nil))) (qa_cons (q_add (q_add (q_mul (q_mod (qe_var (pv 2)) (q_add (q_pow (qe_c pe_int) (qe_c pe_int)) (qe_c pe_int))) (qe_c pe_int)) (q_mul (qe_c pe_int) (qe_var (pv 1)))) (qe_c pe_int)) (qa_cons (qe_c pe_int) qa_nil))))))), ?_⟩
  -- names: 0 _law_script, 1 _law_k, 2 _law_cell
  rintro us Q hl ⟨ns, k, rfl, hk, q⟩
  refine seqJ (fun e => ∃ z : Int, e = [some (false, .rd (ns.map T.int)), some (false, .int k), some (false, .int z)]) ?_ ?_
  rotate_left
  · intro N hN
    repeat (first | refine ⟨_, rfl, rfl, List.nodup_nil, ?_⟩ | refine ⟨_, rfl, Nat.le_of_ble_eq_true rfl, ?_⟩ | refine ⟨_, rfl, ?_⟩ | refine ⟨_, _, rfl, rfl, ?_⟩ | refine ⟨_, _, _, rfl, rfl, by decide +kernel, ?_⟩ | refine Or.inl ⟨_, rfl, ?_⟩ | refine Or.inr ⟨_, rfl, ?_⟩ | refine Or.inl ⟨_, _, rfl, rfl, ?_⟩ | refine ⟨_, _, rfl, ?_⟩ | refine ⟨rfl, ?_⟩ | refine ⟨⟨_, rfl⟩, ?_⟩ | refine Or.inl ⟨_, _, _, rfl, rfl, rfl, ?_⟩ | refine ⟨_, _, _, rfl, rfl, ?_⟩)
    by_cases h : k < ns.length
    · refine iteTq (by simpa using h) ?_
      repeat (first | refine ⟨_, rfl, rfl, List.nodup_nil, ?_⟩ | refine ⟨_, rfl, Nat.le_of_ble_eq_true rfl, ?_⟩ | refine ⟨_, rfl, ?_⟩ | refine ⟨_, _, rfl, rfl, ?_⟩ | refine ⟨_, _, _, rfl, rfl, by decide +kernel, ?_⟩ | refine Or.inl ⟨_, rfl, ?_⟩ | refine Or.inr ⟨_, rfl, ?_⟩ | refine Or.inl ⟨_, _, rfl, rfl, ?_⟩ | refine ⟨_, _, rfl, ?_⟩ | refine ⟨rfl, ?_⟩ | refine ⟨⟨_, rfl⟩, ?_⟩ | refine Or.inl ⟨_, _, _, rfl, rfl, rfl, ?_⟩ | refine ⟨_, _, _, rfl, rfl, ?_⟩)
      refine Or.inr (Or.inr (Or.inl ⟨_, _, .int ns[k], rfl, rfl, atI_nat (by simp [h]), ?_⟩))
      exact hN _ ⟨ns[k], rfl⟩
    · refine iteFq (by simpa using h) ?_
      exact hN _ ⟨0, rfl⟩
  · rintro e ⟨z, rfl⟩
    repeat (first | refine ⟨_, rfl, rfl, List.nodup_nil, ?_⟩ | refine ⟨_, rfl, Nat.le_of_ble_eq_true rfl, ?_⟩ | refine ⟨_, rfl, ?_⟩ | refine ⟨_, _, rfl, rfl, ?_⟩ | refine ⟨_, _, _, rfl, rfl, by decide +kernel, ?_⟩ | refine Or.inl ⟨_, rfl, ?_⟩ | refine Or.inr ⟨_, rfl, ?_⟩ | refine Or.inl ⟨_, _, rfl, rfl, ?_⟩ | refine ⟨_, _, rfl, ?_⟩ | refine ⟨rfl, ?_⟩ | refine ⟨⟨_, rfl⟩, ?_⟩ | refine Or.inl ⟨_, _, _, rfl, rfl, rfl, ?_⟩ | refine ⟨_, _, _, rfl, rfl, ?_⟩)
    refine ⟨⟨by decide, by decide +kernel⟩, ?_⟩
    repeat (first | refine ⟨_, rfl, rfl, List.nodup_nil, ?_⟩ | refine ⟨_, rfl, Nat.le_of_ble_eq_true rfl, ?_⟩ | refine ⟨_, rfl, ?_⟩ | refine ⟨_, _, rfl, rfl, ?_⟩ | refine ⟨_, _, _, rfl, rfl, by decide +kernel, ?_⟩ | refine Or.inl ⟨_, rfl, ?_⟩ | refine Or.inr ⟨_, rfl, ?_⟩ | refine Or.inl ⟨_, _, rfl, rfl, ?_⟩ | refine ⟨_, _, rfl, ?_⟩ | refine ⟨rfl, ?_⟩ | refine ⟨⟨_, rfl⟩, ?_⟩ | refine Or.inl ⟨_, _, _, rfl, rfl, rfl, ?_⟩ | refine ⟨_, _, _, rfl, rfl, ?_⟩)
    refine ⟨⟨by decide, by decide +kernel⟩, ?_⟩
    repeat (first | refine ⟨_, rfl, rfl, List.nodup_nil, ?_⟩ | refine ⟨_, rfl, Nat.le_of_ble_eq_true rfl, ?_⟩ | refine ⟨_, rfl, ?_⟩ | refine ⟨_, _, rfl, rfl, ?_⟩ | refine ⟨_, _, _, rfl, rfl, by decide +kernel, ?_⟩ | refine Or.inl ⟨_, rfl, ?_⟩ | refine Or.inr ⟨_, rfl, ?_⟩ | refine Or.inl ⟨_, _, rfl, rfl, ?_⟩ | refine ⟨_, _, rfl, ?_⟩ | refine ⟨rfl, ?_⟩ | refine ⟨⟨_, rfl⟩, ?_⟩ | refine Or.inl ⟨_, _, _, rfl, rfl, rfl, ?_⟩ | refine ⟨_, _, _, rfl, rfl, ?_⟩)
    refine ⟨show (0 : Int) < 10 ^ Int.toNat 38 + 133 by decide +kernel, ?_⟩
    repeat (first | refine ⟨_, rfl, rfl, List.nodup_nil, ?_⟩ | refine ⟨_, rfl, Nat.le_of_ble_eq_true rfl, ?_⟩ | refine ⟨_, rfl, ?_⟩ | refine ⟨_, _, rfl, rfl, ?_⟩ | refine ⟨_, _, _, rfl, rfl, by decide +kernel, ?_⟩ | refine Or.inl ⟨_, rfl, ?_⟩ | refine Or.inr ⟨_, rfl, ?_⟩ | refine Or.inl ⟨_, _, rfl, rfl, ?_⟩ | refine ⟨_, _, rfl, ?_⟩ | refine ⟨rfl, ?_⟩ | refine ⟨⟨_, rfl⟩, ?_⟩ | refine Or.inl ⟨_, _, _, rfl, rfl, rfl, ?_⟩ | refine ⟨_, _, _, rfl, rfl, ?_⟩)
    have e0 : (0 : Int) < 10 ^ Int.toNat 38 + 133 := by decide +kernel
    have e9 : (10 : Int) ^ Int.toNat 38 + 133 < 2 ^ 130 := by decide +kernel
    have h0 := Int.emod_nonneg z (show (10 : Int) ^ Int.toNat 38 + 133 ≠ 0 by omega)
    have h1 := Int.emod_lt_of_pos z e0
    revert h0 h1
    generalize z % (10 ^ Int.toNat 38 + 133) = y
    intro h0 h1
    have h2 : y < 2 ^ 130 := by omega
    refine ⟨mulI (by omega) (by decide +kernel), ?_⟩
    repeat (first | refine ⟨_, rfl, rfl, List.nodup_nil, ?_⟩ | refine ⟨_, rfl, Nat.le_of_ble_eq_true rfl, ?_⟩ | refine ⟨_, rfl, ?_⟩ | refine ⟨_, _, rfl, rfl, ?_⟩ | refine ⟨_, _, _, rfl, rfl, by decide +kernel, ?_⟩ | refine Or.inl ⟨_, rfl, ?_⟩ | refine Or.inr ⟨_, rfl, ?_⟩ | refine Or.inl ⟨_, _, rfl, rfl, ?_⟩ | refine ⟨_, _, rfl, ?_⟩ | refine ⟨rfl, ?_⟩ | refine ⟨⟨_, rfl⟩, ?_⟩ | refine Or.inl ⟨_, _, _, rfl, rfl, rfl, ?_⟩ | refine ⟨_, _, _, rfl, rfl, ?_⟩)
    refine ⟨mulI (by decide +kernel) (by omega), ?_⟩
    repeat (first | refine ⟨_, rfl, rfl, List.nodup_nil, ?_⟩ | refine ⟨_, rfl, Nat.le_of_ble_eq_true rfl, ?_⟩ | refine ⟨_, rfl, ?_⟩ | refine ⟨_, _, rfl, rfl, ?_⟩ | refine ⟨_, _, _, rfl, rfl, by decide +kernel, ?_⟩ | refine Or.inl ⟨_, rfl, ?_⟩ | refine Or.inr ⟨_, rfl, ?_⟩ | refine Or.inl ⟨_, _, rfl, rfl, ?_⟩ | refine ⟨_, _, rfl, ?_⟩ | refine ⟨rfl, ?_⟩ | refine ⟨⟨_, rfl⟩, ?_⟩ | refine Or.inl ⟨_, _, _, rfl, rfl, rfl, ?_⟩ | refine ⟨_, _, _, rfl, rfl, ?_⟩)
    exact q _ _ (by split <;> omega) (by omega) (by omega)
def k__law_pinch : Con := fun ts Q => ∃ a b t : Int, ∃ m : Nat, ts = [(true, tinT a b t), (false, .int m)] ∧ 0 ≤ a ∧ 0 ≤ b ∧ b < 2 ^ 200 ∧ 0 ≤ t ∧ t < 100 ∧ 1 ≤ m ∧ m ≤ 1000 ∧ ∀ (r : Nat) (a' t' : Int), r < m → 0 ≤ a' → 0 ≤ t' → t' ≤ t + 1 → Q (false, .int r) [some (true, tinT a' b t'), none]
theorem ok__law_pinch {f : Addr} {fd : FuncData} {C_Lost : Addr} (B : Blt mg) (TX : Txt K mg C_Lost)  (F : Fun K "_law_pinch" "_law_pinch" s__law_pinch f fd) : FnOk P w K mg base CX0 1 f fd ["_law_tin_here", "_law_many"] (spOf K 2 k__law_pinch) := by
  refine fn_q (k := 0) [true, false] F sc__law_pinch rfl (by decide) fun cdv A outer s H E hr => ⟨_, (qss_cons (qs_if (qt_quiet (qt_cmp qc_gt (q_ix (qe_var (pv 0)) (qe_c pe_int)) (qe_c pe_int) (by rfl))) (qss_cons (qs_setF (ps_set (i := 3) sc__law_pinch.nd rfl (by first | exact Or.inl rfl | exact Or.inr rfl) (q_quiet (q_mod (q_ix (qe_var (pv 0)) (qe_c pe_int)) (qe_var (pv 1))))) (hp := by decide))
      (qss_cons (qs_ixset (q_quiet (q_div (q_ix (qe_var (pv 0)) (qe_c pe_int)) (qe_var (pv 1)))) (qp_slot (pv 0)) (qe_c pe_int))
      (qss_one (qs_ret (qe_var (pv 3)))))) qss_nil)
      (qss_cons (qs_ixset (q_quiet (q_add (q_ix (qe_var (pv 0)) (qe_c pe_int)) (qe_c pe_int))) (qp_slot (pv 0)) (qe_c pe_int))
      (qss_cons (qs_setF (ps_set (i := 2) sc__law_pinch.nd rfl (by first | exact Or.inl rfl | exact Or.inr rfl) (q_quiet (q_mod (q_pow (q_add (q_ix (qe_var (pv 0)) (qe_c pe_int)) (q_mul (qe_c pe_int) (q_ix (qe_var (pv 0)) (qe_c pe_int)))) (qe_c pe_int)) (q_add (q_pow (qe_c pe_int) (qe_c pe_int)) (qe_c pe_int))))) (hp := by decide))
      (qss_cons (qs_setF (ps_set (i := 2) sc__law_pinch.nd rfl (by first | exact Or.inl rfl | exact Or.inr rfl) (q_quiet (q_mod (q_pow (q_add (qe_var (pv 2)) (q_mul (qe_c pe_int) (q_ix (qe_var (pv 0)) (qe_c pe_int)))) (qe_c pe_int)) (q_add (q_pow (qe_c pe_int) (qe_c pe_int)) (qe_c pe_int))))) (hp := by decide))
      (qss_one (qs_ret (q_mod (q_div (qe_var (pv 2)) (qe_c pe_int)) (qe_var (pv 1))))))))), ?_⟩
  -- names: 0 _law_tin_here, 1 _law_many, 2 _law_ground, 3 _law_found
  rintro ts Q hl ⟨a, b, t, m, rfl, ha, hb, hb2, ht, ht2, hm, hm2, q⟩
  repeat (first | refine ⟨_, rfl, rfl, List.nodup_nil, ?_⟩ | refine ⟨_, rfl, Nat.le_of_ble_eq_true rfl, ?_⟩ | refine ⟨_, rfl, ?_⟩ | refine ⟨_, _, rfl, rfl, ?_⟩ | refine ⟨_, _, _, rfl, rfl, by decide +kernel, ?_⟩ | refine Or.inl ⟨_, rfl, ?_⟩ | refine Or.inr ⟨_, rfl, ?_⟩ | refine Or.inl ⟨_, _, rfl, rfl, ?_⟩ | refine ⟨_, _, rfl, ?_⟩ | refine ⟨rfl, ?_⟩ | refine ⟨⟨_, rfl⟩, ?_⟩ | refine Or.inl ⟨_, _, _, rfl, rfl, rfl, ?_⟩ | refine ⟨_, _, _, rfl, rfl, ?_⟩)
  by_cases ha0 : 0 < a
  · refine iteTq (by simpa using ha0) ?_
    repeat (first | refine ⟨_, rfl, rfl, List.nodup_nil, ?_⟩ | refine ⟨_, rfl, Nat.le_of_ble_eq_true rfl, ?_⟩ | refine ⟨_, rfl, ?_⟩ | refine ⟨_, _, rfl, rfl, ?_⟩ | refine ⟨_, _, _, rfl, rfl, by decide +kernel, ?_⟩ | refine Or.inl ⟨_, rfl, ?_⟩ | refine Or.inr ⟨_, rfl, ?_⟩ | refine Or.inl ⟨_, _, rfl, rfl, ?_⟩ | refine ⟨_, _, rfl, ?_⟩ | refine ⟨rfl, ?_⟩ | refine ⟨⟨_, rfl⟩, ?_⟩ | refine Or.inl ⟨_, _, _, rfl, rfl, rfl, ?_⟩ | refine ⟨_, _, _, rfl, rfl, ?_⟩)
    refine ⟨show (0 : Int) < m by omega, ?_⟩
    repeat (first | refine ⟨_, rfl, rfl, List.nodup_nil, ?_⟩ | refine ⟨_, rfl, Nat.le_of_ble_eq_true rfl, ?_⟩ | refine ⟨_, rfl, ?_⟩ | refine ⟨_, _, rfl, rfl, ?_⟩ | refine ⟨_, _, _, rfl, rfl, by decide +kernel, ?_⟩ | refine Or.inl ⟨_, rfl, ?_⟩ | refine Or.inr ⟨_, rfl, ?_⟩ | refine Or.inl ⟨_, _, rfl, rfl, ?_⟩ | refine ⟨_, _, rfl, ?_⟩ | refine ⟨rfl, ?_⟩ | refine ⟨⟨_, rfl⟩, ?_⟩ | refine Or.inl ⟨_, _, _, rfl, rfl, rfl, ?_⟩ | refine ⟨_, _, _, rfl, rfl, ?_⟩)
    refine ⟨⟨show (0 : Int) < m by omega, by have := log_small (n := m) ; simp; exact Nat.lt_of_le_of_lt (Nat.log2_le_self _) (by omega)⟩, ?_⟩
    repeat (first | refine ⟨_, rfl, rfl, List.nodup_nil, ?_⟩ | refine ⟨_, rfl, Nat.le_of_ble_eq_true rfl, ?_⟩ | refine ⟨_, rfl, ?_⟩ | refine ⟨_, _, rfl, rfl, ?_⟩ | refine ⟨_, _, _, rfl, rfl, by decide +kernel, ?_⟩ | refine Or.inl ⟨_, rfl, ?_⟩ | refine Or.inr ⟨_, rfl, ?_⟩ | refine Or.inl ⟨_, _, rfl, rfl, ?_⟩ | refine ⟨_, _, rfl, ?_⟩ | refine ⟨rfl, ?_⟩ | refine ⟨⟨_, rfl⟩, ?_⟩ | refine Or.inl ⟨_, _, _, rfl, rfl, rfl, ?_⟩ | refine ⟨_, _, _, rfl, rfl, ?_⟩)
    refine ⟨_, _, _, rfl, rfl, rfl, ?_⟩
    repeat (first | refine ⟨_, rfl, rfl, List.nodup_nil, ?_⟩ | refine ⟨_, rfl, Nat.le_of_ble_eq_true rfl, ?_⟩ | refine ⟨_, rfl, ?_⟩ | refine ⟨_, _, rfl, rfl, ?_⟩ | refine ⟨_, _, _, rfl, rfl, by decide +kernel, ?_⟩ | refine Or.inl ⟨_, rfl, ?_⟩ | refine Or.inr ⟨_, rfl, ?_⟩ | refine Or.inl ⟨_, _, rfl, rfl, ?_⟩ | refine ⟨_, _, rfl, ?_⟩ | refine ⟨rfl, ?_⟩ | refine ⟨⟨_, rfl⟩, ?_⟩ | refine Or.inl ⟨_, _, _, rfl, rfl, rfl, ?_⟩ | refine ⟨_, _, _, rfl, rfl, ?_⟩)
    have e : (((a % m).toNat : Nat) : Int) = a % m := Int.toNat_of_nonneg (Int.emod_nonneg _ (by omega))
    have h1 := Int.emod_lt_of_pos a (show (0 : Int) < m by omega)
    have := q (a % m).toNat (a / m) t (by omega) (Int.ediv_nonneg ha (by omega)) ht (by omega)
    rw [e] at this
    exact this
  · refine iteFq (by simpa using ha0) ?_
    repeat (first | refine ⟨_, rfl, rfl, List.nodup_nil, ?_⟩ | refine ⟨_, rfl, Nat.le_of_ble_eq_true rfl, ?_⟩ | refine ⟨_, rfl, ?_⟩ | refine ⟨_, _, rfl, rfl, ?_⟩ | refine ⟨_, _, _, rfl, rfl, by decide +kernel, ?_⟩ | refine Or.inl ⟨_, rfl, ?_⟩ | refine Or.inr ⟨_, rfl, ?_⟩ | refine Or.inl ⟨_, _, rfl, rfl, ?_⟩ | refine ⟨_, _, rfl, ?_⟩ | refine ⟨rfl, ?_⟩ | refine ⟨⟨_, rfl⟩, ?_⟩ | refine Or.inl ⟨_, _, _, rfl, rfl, rfl, ?_⟩ | refine ⟨_, _, _, rfl, rfl, ?_⟩)
    refine ⟨_, _, _, rfl, rfl, rfl, ?_⟩
    repeat (first | refine ⟨_, rfl, rfl, List.nodup_nil, ?_⟩ | refine ⟨_, rfl, Nat.le_of_ble_eq_true rfl, ?_⟩ | refine ⟨_, rfl, ?_⟩ | refine ⟨_, _, rfl, rfl, ?_⟩ | refine ⟨_, _, _, rfl, rfl, by decide +kernel, ?_⟩ | refine Or.inl ⟨_, rfl, ?_⟩ | refine Or.inr ⟨_, rfl, ?_⟩ | refine Or.inl ⟨_, _, rfl, rfl, ?_⟩ | refine ⟨_, _, rfl, ?_⟩ | refine ⟨rfl, ?_⟩ | refine ⟨⟨_, rfl⟩, ?_⟩ | refine Or.inl ⟨_, _, _, rfl, rfl, rfl, ?_⟩ | refine ⟨_, _, _, rfl, rfl, ?_⟩)
    refine ⟨mulI (by decide +kernel) (by omega), ?_⟩
    repeat (first | refine ⟨_, rfl, rfl, List.nodup_nil, ?_⟩ | refine ⟨_, rfl, Nat.le_of_ble_eq_true rfl, ?_⟩ | refine ⟨_, rfl, ?_⟩ | refine ⟨_, _, rfl, rfl, ?_⟩ | refine ⟨_, _, _, rfl, rfl, by decide +kernel, ?_⟩ | refine Or.inl ⟨_, rfl, ?_⟩ | refine Or.inr ⟨_, rfl, ?_⟩ | refine Or.inl ⟨_, _, rfl, rfl, ?_⟩ | refine ⟨_, _, rfl, ?_⟩ | refine ⟨rfl, ?_⟩ | refine ⟨⟨_, rfl⟩, ?_⟩ | refine Or.inl ⟨_, _, _, rfl, rfl, rfl, ?_⟩ | refine ⟨_, _, _, rfl, rfl, ?_⟩)
    refine ⟨powI (by omega), ?_⟩
    repeat (first | refine ⟨_, rfl, rfl, List.nodup_nil, ?_⟩ | refine ⟨_, rfl, Nat.le_of_ble_eq_true rfl, ?_⟩ | refine ⟨_, rfl, ?_⟩ | refine ⟨_, _, rfl, rfl, ?_⟩ | refine ⟨_, _, _, rfl, rfl, by decide +kernel, ?_⟩ | refine Or.inl ⟨_, rfl, ?_⟩ | refine Or.inr ⟨_, rfl, ?_⟩ | refine Or.inl ⟨_, _, rfl, rfl, ?_⟩ | refine ⟨_, _, rfl, ?_⟩ | refine ⟨rfl, ?_⟩ | refine ⟨⟨_, rfl⟩, ?_⟩ | refine Or.inl ⟨_, _, _, rfl, rfl, rfl, ?_⟩ | refine ⟨_, _, _, rfl, rfl, ?_⟩)
    refine ⟨⟨by decide, by decide +kernel⟩, ?_⟩
    repeat (first | refine ⟨_, rfl, rfl, List.nodup_nil, ?_⟩ | refine ⟨_, rfl, Nat.le_of_ble_eq_true rfl, ?_⟩ | refine ⟨_, rfl, ?_⟩ | refine ⟨_, _, rfl, rfl, ?_⟩ | refine ⟨_, _, _, rfl, rfl, by decide +kernel, ?_⟩ | refine Or.inl ⟨_, rfl, ?_⟩ | refine Or.inr ⟨_, rfl, ?_⟩ | refine Or.inl ⟨_, _, rfl, rfl, ?_⟩ | refine ⟨_, _, rfl, ?_⟩ | refine ⟨rfl, ?_⟩ | refine ⟨⟨_, rfl⟩, ?_⟩ | refine Or.inl ⟨_, _, _, rfl, rfl, rfl, ?_⟩ | refine ⟨_, _, _, rfl, rfl, ?_⟩)
    refine ⟨show (0 : Int) < 10 ^ Int.toNat 42 + 63 by decide +kernel, ?_⟩
    refine ⟨rfl, ?_⟩
    refine envq [some (true, tinT a b (t + 1)), some (false, .int m), some (false, .int ((b + 2860486313 * (t + 1)) ^ Int.toNat 3 % (10 ^ Int.toNat 42 + 63))), none] ?_ rfl
    have eg : (0 : Int) < 10 ^ Int.toNat 42 + 63 := by decide +kernel
    have fg : (10 : Int) ^ Int.toNat 42 + 63 < 2 ^ 150 := by decide +kernel
    have hg0 := Int.emod_nonneg ((b + 2860486313 * (t + 1)) ^ Int.toNat 3) (show (10 : Int) ^ Int.toNat 42 + 63 ≠ 0 by omega)
    have hg1 := Int.emod_lt_of_pos ((b + 2860486313 * (t + 1)) ^ Int.toNat 3) eg
    revert hg0 hg1
    generalize (b + 2860486313 * (t + 1)) ^ Int.toNat 3 % (10 ^ Int.toNat 42 + 63) = g
    intro hg0 hg1
    have kg : g < 2 ^ 150 := by omega
    repeat (first | refine ⟨_, rfl, rfl, List.nodup_nil, ?_⟩ | refine ⟨_, rfl, Nat.le_of_ble_eq_true rfl, ?_⟩ | refine ⟨_, rfl, ?_⟩ | refine ⟨_, _, rfl, rfl, ?_⟩ | refine ⟨_, _, _, rfl, rfl, by decide +kernel, ?_⟩ | refine Or.inl ⟨_, rfl, ?_⟩ | refine Or.inr ⟨_, rfl, ?_⟩ | refine Or.inl ⟨_, _, rfl, rfl, ?_⟩ | refine ⟨_, _, rfl, ?_⟩ | refine ⟨rfl, ?_⟩ | refine ⟨⟨_, rfl⟩, ?_⟩ | refine Or.inl ⟨_, _, _, rfl, rfl, rfl, ?_⟩ | refine ⟨_, _, _, rfl, rfl, ?_⟩)
    refine ⟨mulI (by decide +kernel) (by omega), ?_⟩
    repeat (first | refine ⟨_, rfl, rfl, List.nodup_nil, ?_⟩ | refine ⟨_, rfl, Nat.le_of_ble_eq_true rfl, ?_⟩ | refine ⟨_, rfl, ?_⟩ | refine ⟨_, _, rfl, rfl, ?_⟩ | refine ⟨_, _, _, rfl, rfl, by decide +kernel, ?_⟩ | refine Or.inl ⟨_, rfl, ?_⟩ | refine Or.inr ⟨_, rfl, ?_⟩ | refine Or.inl ⟨_, _, rfl, rfl, ?_⟩ | refine ⟨_, _, rfl, ?_⟩ | refine ⟨rfl, ?_⟩ | refine ⟨⟨_, rfl⟩, ?_⟩ | refine Or.inl ⟨_, _, _, rfl, rfl, rfl, ?_⟩ | refine ⟨_, _, _, rfl, rfl, ?_⟩)
    refine ⟨powI (by omega), ?_⟩
    repeat (first | refine ⟨_, rfl, rfl, List.nodup_nil, ?_⟩ | refine ⟨_, rfl, Nat.le_of_ble_eq_true rfl, ?_⟩ | refine ⟨_, rfl, ?_⟩ | refine ⟨_, _, rfl, rfl, ?_⟩ | refine ⟨_, _, _, rfl, rfl, by decide +kernel, ?_⟩ | refine Or.inl ⟨_, rfl, ?_⟩ | refine Or.inr ⟨_, rfl, ?_⟩ | refine Or.inl ⟨_, _, rfl, rfl, ?_⟩ | refine ⟨_, _, rfl, ?_⟩ | refine ⟨rfl, ?_⟩ | refine ⟨⟨_, rfl⟩, ?_⟩ | refine Or.inl ⟨_, _, _, rfl, rfl, rfl, ?_⟩ | refine ⟨_, _, _, rfl, rfl, ?_⟩)
    refine ⟨⟨by decide, by decide +kernel⟩, ?_⟩
    repeat (first | refine ⟨_, rfl, rfl, List.nodup_nil, ?_⟩ | refine ⟨_, rfl, Nat.le_of_ble_eq_true rfl, ?_⟩ | refine ⟨_, rfl, ?_⟩ | refine ⟨_, _, rfl, rfl, ?_⟩ | refine ⟨_, _, _, rfl, rfl, by decide +kernel, ?_⟩ | refine Or.inl ⟨_, rfl, ?_⟩ | refine Or.inr ⟨_, rfl, ?_⟩ | refine Or.inl ⟨_, _, rfl, rfl, ?_⟩ | refine ⟨_, _, rfl, ?_⟩ | refine ⟨rfl, ?_⟩ | refine ⟨⟨_, rfl⟩, ?_⟩ | refine Or.inl ⟨_, _, _, rfl, rfl, rfl, ?_⟩ | refine ⟨_, _, _, rfl, rfl, ?_⟩)
    refine ⟨show (0 : Int) < 10 ^ Int.toNat 41 + 37 by decide +kernel, ?_⟩
    refine ⟨rfl, ?_⟩
    refine envq [some (true, tinT a b (t + 1)), some (false, .int m), some (false, .int ((g + 1190494759 * (t + 1)) ^ Int.toNat 3 % (10 ^ Int.toNat 41 + 37))), none] ?_ rfl
    have eh : (0 : Int) < 10 ^ Int.toNat 41 + 37 := by decide +kernel
    have fh : (10 : Int) ^ Int.toNat 41 + 37 < 2 ^ 150 := by decide +kernel
    have hh0 := Int.emod_nonneg ((g + 1190494759 * (t + 1)) ^ Int.toNat 3) (show (10 : Int) ^ Int.toNat 41 + 37 ≠ 0 by omega)
    have hh1 := Int.emod_lt_of_pos ((g + 1190494759 * (t + 1)) ^ Int.toNat 3) eh
    revert hh0 hh1
    generalize (g + 1190494759 * (t + 1)) ^ Int.toNat 3 % (10 ^ Int.toNat 41 + 37) = h
    intro hh0 hh1
    have kh : h < 2 ^ 150 := by omega
    repeat (first | refine ⟨_, rfl, rfl, List.nodup_nil, ?_⟩ | refine ⟨_, rfl, Nat.le_of_ble_eq_true rfl, ?_⟩ | refine ⟨_, rfl, ?_⟩ | refine ⟨_, _, rfl, rfl, ?_⟩ | refine ⟨_, _, _, rfl, rfl, by decide +kernel, ?_⟩ | refine Or.inl ⟨_, rfl, ?_⟩ | refine Or.inr ⟨_, rfl, ?_⟩ | refine Or.inl ⟨_, _, rfl, rfl, ?_⟩ | refine ⟨_, _, rfl, ?_⟩ | refine ⟨rfl, ?_⟩ | refine ⟨⟨_, rfl⟩, ?_⟩ | refine Or.inl ⟨_, _, _, rfl, rfl, rfl, ?_⟩ | refine ⟨_, _, _, rfl, rfl, ?_⟩)
    refine ⟨divW 999959 rfl (by decide) (by decide +kernel), ?_⟩
    repeat (first | refine ⟨_, rfl, rfl, List.nodup_nil, ?_⟩ | refine ⟨_, rfl, Nat.le_of_ble_eq_true rfl, ?_⟩ | refine ⟨_, rfl, ?_⟩ | refine ⟨_, _, rfl, rfl, ?_⟩ | refine ⟨_, _, _, rfl, rfl, by decide +kernel, ?_⟩ | refine Or.inl ⟨_, rfl, ?_⟩ | refine Or.inr ⟨_, rfl, ?_⟩ | refine Or.inl ⟨_, _, rfl, rfl, ?_⟩ | refine ⟨_, _, rfl, ?_⟩ | refine ⟨rfl, ?_⟩ | refine ⟨⟨_, rfl⟩, ?_⟩ | refine Or.inl ⟨_, _, _, rfl, rfl, rfl, ?_⟩ | refine ⟨_, _, _, rfl, rfl, ?_⟩)
    refine ⟨show (0 : Int) < m by omega, ?_⟩
    have e : (((h / 999959 % m).toNat : Nat) : Int) = h / 999959 % m := Int.toNat_of_nonneg (Int.emod_nonneg _ (by omega))
    have h1 := Int.emod_lt_of_pos (h / 999959) (show (0 : Int) < m by omega)
    have := q (h / 999959 % m).toNat a (t + 1) (by omega) ha (by omega) (by omega)
    rw [e] at this
    exact this
def inc (c : Str → Nat) (y : Str) : Str → Nat := fun n => if n = y then c y + 1 else c n
theorem tot_inc {ns : List Str} {c : Str → Nat} {y : Str} (nd : ns.Nodup) (hy : y ∈ ns) : tot ns (inc c y) = tot ns c + 1 := by
  have := sum_set (c := c) nd hy (c y + 1)
  unfold tot inc
  omega
theorem M_inc {ns : List Str} {c : Str → Nat} {y : Str} (nd : ns.Nodup) (hy : y ∈ ns) : M ns c * (tot ns c + 1) / (c y + 1) = M ns (inc c y) := by
  have h1 := pf_set (c := c) nd hy (c y + 1)
  have h2 : pf (ns.map (inc c y)) = pf (ns.map c) * (c y + 1) := by
    have h5 : fac (c y + 1) = (c y + 1) * fac (c y) := rfl
    rw [h5, ← Nat.mul_assoc] at h1
    exact Nat.eq_of_mul_eq_mul_right (fac_pos (c y)) h1
  have h3 : tot ns (inc c y) = tot ns c + 1 := tot_inc nd hy
  unfold M multi
  show fac (tot ns c) / _ * _ / _ = fac (tot ns (inc c y)) / _
  rw [h2, h3, Nat.mul_comm (fac (tot ns c) / _), ← Nat.mul_div_assoc _ (show pf (ns.map c) ∣ fac (tot ns c) from pf_dvd _), Nat.div_div_eq_div_mul]
  rfl
/-- how often each stands among the first -/
def cnt (xs : List Str) : Str → Nat := fun o => xs.count o
theorem cnt_snoc (xs : List Str) (y : Str) : cnt (xs ++ [y]) = inc (cnt xs) y := by
  funext n
  unfold cnt inc
  rw [List.count_append]
  by_cases h : n = y
  · subst h; simp
  · have h' : ¬ y = n := fun e => h e.symm
    simp [h, h']
theorem tot_cnt {ns : List Str} (nd : ns.Nodup) {xs : List Str} (h : ∀ y ∈ xs, y ∈ ns) : tot ns (cnt xs) = xs.length := by
  have : ∀ k, k ≤ xs.length → tot ns (cnt (xs.take k)) = k := by
    intro k
    induction k with
    | zero =>
      intro _
      have e : cnt [] = fun _ => 0 := by funext o; simp [cnt]
      rw [List.take_zero, e]
      exact sum_zero ns
    | succ k ih =>
      intro hk
      rw [List.take_succ_eq_append_getElem (by omega), cnt_snoc, tot_inc nd (h _ (List.getElem_mem _)), ih (by omega)]
  have := this xs.length (Nat.le_refl _)
  rwa [List.take_length] at this
theorem cutT_take {α : Type} (xs : List α) (k : Nat) (h : k ≤ xs.length) : cutT xs none (some (k : Int)) = xs.take k := by
  unfold cutT
  rw [HT.sIx_none, HT.sIx_nat, Nat.min_eq_left h]
  rfl
def k__law_arranged : CT := fun us Q => ∃ xs ns, us = [strsT xs] ∧ ns.Nodup ∧ (∀ y ∈ xs, y ∈ ns) ∧ xs.length ≤ 60 ∧ Q (false, .int (M ns (cnt xs) : Nat))
theorem ok__law_arranged {f : Addr} {fd : FuncData} {C_Lost : Addr} (B : Blt mg) (TX : Txt K mg C_Lost)  (F : Fun K "_law_arranged" "_law_arranged" s__law_arranged f fd) : FnOk P w K mg base CX0 1 f fd ["_law_names"] (spOf K 1 (rc k__law_arranged)) := by
  refine fn_r (k := 0) F sc__law_arranged rfl fun cdv A outer s H E hr => ⟨_, (qss_cons (qs_setF (ps_set (i := 1) sc__law_arranged.nd rfl (by first | exact Or.inl rfl | exact Or.inr rfl) (qe_c pe_int)) (hp := by decide))
      (qss_cons (qs_for PassesOwn.never rfl (qi_range1 rfl B.range (qa_cons (q_len rfl B.len (qa_cons (qe_var (pv 0)) qa_nil)) qa_nil)) (gq_name (pg_name (i := 2) sc__law_arranged.nd rfl (by first | exact Or.inl rfl | exact Or.inr rfl))) (qss_one (qs_setF (ps_set (i := 1) sc__law_arranged.nd rfl (by first | exact Or.inl rfl | exact Or.inr rfl) (q_div (q_mul (qe_var (pv 1)) (q_add (qe_var (pv 2)) (qe_c pe_int))) (q_count (q_sl (qe_var (pv 0)) qo_none (qo_some (q_add (qe_var (pv 2)) (qe_c pe_int)))) (qa_cons (q_ix (qe_var (pv 0)) (qe_var (pv 2))) qa_nil)))) (hp := by decide))) (hpn := by decide))
      (qss_one (qs_ret (qe_var (pv 1)))))), ?_⟩
  -- names: 0 _law_names, 1 _law_found, 2 _law_at
  rintro us Q hl ⟨xs, ns, rfl, nd, hin, hlen, q⟩
  repeat (first | refine ⟨_, rfl, rfl, List.nodup_nil, ?_⟩ | refine ⟨_, rfl, Nat.le_of_ble_eq_true rfl, ?_⟩ | refine ⟨_, rfl, ?_⟩ | refine ⟨_, _, rfl, rfl, ?_⟩ | refine ⟨_, _, _, rfl, rfl, by decide +kernel, ?_⟩ | refine Or.inl ⟨_, rfl, ?_⟩ | refine Or.inr ⟨_, rfl, ?_⟩ | refine Or.inl ⟨_, _, rfl, rfl, ?_⟩ | refine ⟨_, _, rfl, ?_⟩ | refine ⟨rfl, ?_⟩ | refine ⟨⟨_, rfl⟩, ?_⟩ | refine Or.inl ⟨_, _, _, rfl, rfl, rfl, ?_⟩ | refine ⟨_, _, _, rfl, rfl, ?_⟩)
  refine ⟨by omega, by simp; omega, ?_⟩
  rw [Int.toNat_natCast, List.length_map]
  have hM0 : M ns (cnt []) = 1 := M_zero (tot_cnt nd (xs := []) (by simp))
  refine for_upto 0 _ (fun i e => ∃ o2, e = [some (false, strsT xs), some (false, .int (M ns (cnt (xs.take i)) : Nat)), o2]) ⟨none, by rw [List.take_zero, hM0]; rfl⟩ ?_ ?_
  · rintro i hi e N ⟨o2, rfl⟩ hN
    have hy : xs[i] ∈ ns := hin _ (List.getElem_mem _)
    have ht : tot ns (cnt (xs.take i)) = i := by
      rw [tot_cnt nd fun y hy => hin y (List.mem_of_mem_take hy), List.length_take]
      omega
    repeat (first | refine ⟨_, rfl, rfl, List.nodup_nil, ?_⟩ | refine ⟨_, rfl, Nat.le_of_ble_eq_true rfl, ?_⟩ | refine ⟨_, rfl, ?_⟩ | refine ⟨_, _, rfl, rfl, ?_⟩ | refine ⟨_, _, _, rfl, rfl, by decide +kernel, ?_⟩ | refine Or.inl ⟨_, rfl, ?_⟩ | refine Or.inr ⟨_, rfl, ?_⟩ | refine Or.inl ⟨_, _, rfl, rfl, ?_⟩ | refine ⟨_, _, rfl, ?_⟩ | refine ⟨rfl, ?_⟩ | refine ⟨⟨_, rfl⟩, ?_⟩ | refine Or.inl ⟨_, _, _, rfl, rfl, rfl, ?_⟩ | refine ⟨_, _, _, rfl, rfl, ?_⟩)
    have hM := log_fac (n := i) (m := M ns (cnt (xs.take i))) (by omega) (by have := M_le ns (cnt (xs.take i)); rwa [ht] at this)
    refine ⟨mulW (M ns (cnt (xs.take i))) (i + 1) rfl (by omega) hM (log_small (by omega)), ?_⟩
    repeat (first | refine ⟨_, rfl, rfl, List.nodup_nil, ?_⟩ | refine ⟨_, rfl, Nat.le_of_ble_eq_true rfl, ?_⟩ | refine ⟨_, rfl, ?_⟩ | refine ⟨_, _, rfl, rfl, ?_⟩ | refine ⟨_, _, _, rfl, rfl, by decide +kernel, ?_⟩ | refine Or.inl ⟨_, rfl, ?_⟩ | refine Or.inr ⟨_, rfl, ?_⟩ | refine Or.inl ⟨_, _, rfl, rfl, ?_⟩ | refine ⟨_, _, rfl, ?_⟩ | refine ⟨rfl, ?_⟩ | refine ⟨⟨_, rfl⟩, ?_⟩ | refine Or.inl ⟨_, _, _, rfl, rfl, rfl, ?_⟩ | refine ⟨_, _, _, rfl, rfl, ?_⟩)
    refine Or.inl ⟨_, _, .str xs[i], rfl, rfl, ?h, ?_⟩
    case h =>
      rw [Int.zero_add]
      exact atI_nat (by rw [List.getElem?_map, List.getElem?_eq_getElem hi]; rfl)
    refine ⟨_, rfl, xs.take (i + 1), xs[i], ?h2, rfl, ?_⟩
    case h2 =>
      show T.lst (cutT (xs.map T.str) none (some (0 + (i : Int) + 1))) = _
      rw [show (0 + (i : Int) + 1) = ((i + 1 : Nat) : Int) by omega, cutT_map, cutT_take _ _ (by omega)]
    have hc : (xs.take (i + 1)).count xs[i] = cnt (xs.take i) xs[i] + 1 := by
      have := congrFun (cnt_snoc (xs.take i) xs[i]) xs[i]
      rw [← List.take_succ_eq_append_getElem hi] at this
      unfold cnt at this ⊢
      rw [this]
      simp [inc]
    have hle := le_tot (c := cnt (xs.take i)) hy
    rw [hc]
    repeat (first | refine ⟨_, rfl, rfl, List.nodup_nil, ?_⟩ | refine ⟨_, rfl, Nat.le_of_ble_eq_true rfl, ?_⟩ | refine ⟨_, rfl, ?_⟩ | refine ⟨_, _, rfl, rfl, ?_⟩ | refine ⟨_, _, _, rfl, rfl, by decide +kernel, ?_⟩ | refine Or.inl ⟨_, rfl, ?_⟩ | refine Or.inr ⟨_, rfl, ?_⟩ | refine Or.inl ⟨_, _, rfl, rfl, ?_⟩ | refine ⟨_, _, rfl, ?_⟩ | refine ⟨rfl, ?_⟩ | refine ⟨⟨_, rfl⟩, ?_⟩ | refine Or.inl ⟨_, _, _, rfl, rfl, rfl, ?_⟩ | refine ⟨_, _, _, rfl, rfl, ?_⟩)
    refine ⟨divW (cnt (xs.take i) xs[i] + 1) rfl (by omega) (log_small (by omega)), ?_⟩
    refine hN _ ⟨some (false, .int (0 + (i : Int))), ?_⟩
    have e1 := M_inc (c := cnt (xs.take i)) nd hy
    rw [ht, ← cnt_snoc, ← List.take_succ_eq_append_getElem hi] at e1
    have e2 : ((M ns (cnt (xs.take i)) : Nat) : Int) * (0 + (i : Int) + 1) / ((cnt (xs.take i) xs[i] + 1 : Nat) : Int) = ((M ns (cnt (xs.take (i + 1))) : Nat) : Int) := by
      rw [← e1]
      simp
    exact congrArg (fun z => [some (false, strsT xs), some (false, .int z), some (false, .int (0 + (i : Int)))]) e2
  · rintro e ⟨o2, rfl⟩
    rw [List.take_length]
    exact ⟨_, rfl, q⟩
end
end Q
end

section
set_option maxRecDepth 100000
set_option maxHeartbeats 4000000
namespace Q
open PySem L2
def L12 : List Str := ("abcdefghijkl" : Str).cps.toList.map fun c => ⟨#[c]⟩
def msOf (r : Nat) : List Str := L12.take (3 + r)
theorem L12_good : ∀ m ∈ L12, goodN m := by unfold goodN; decide +kernel
theorem L12_nd : L12.Nodup := by decide +kernel
theorem L12_pw : L12.Pairwise leS := by unfold leS; decide +kernel
theorem msOf_srt : ∀ r < 10, ∀ p ∈ (msOf r).zip ((msOf r).drop 1), ltS p.1 p.2 = true := by decide +kernel
theorem msOf_len : ∀ r < 10, (msOf r).length = 3 + r := by decide +kernel
theorem msOf_nd (r : Nat) : (msOf r).Nodup := List.Pairwise.sublist (List.take_sublist _ _) L12_nd
theorem msOf_pw (r : Nat) : (msOf r).Pairwise leS := List.Pairwise.sublist (List.take_sublist _ _) L12_pw
theorem msOf_law {r : Nat} (hr : r < 10) {f x : Str} {laps : Nat} (hf : f ∈ msOf r) (hx : x ∈ msOf r) (h1 : 1 ≤ laps) (h5 : laps ≤ 5) : LawOk (msOf r) f x laps where
  ge := by rw [msOf_len r hr]; omega
  le := by rw [msOf_len r hr]; omega
  good := fun m hm => L12_good m (List.mem_of_mem_take hm)
  srt := msOf_srt r hr
  nd := msOf_nd r
  hf := hf
  hx := hx
  h1 := h1
  h5 := h5
  h3 := by rw [msOf_len r hr]; omega
theorem signs_L12 : signsT "abcdefghijkl" = L12.map T.str := by
  unfold signsT L12
  generalize ("abcdefghijkl" : Str).cps.toList = l
  simp [Function.comp_def]
theorem msOf_eq {r : Nat} (hr : r < 10) : mkL (cutT (signsT "abcdefghijkl") none (some (3 + (r : Int)))) = (true, strsT (msOf r)) := by
  have e2 : L12.length = 12 := by decide +kernel
  unfold msOf
  rw [signs_L12]
  revert e2
  generalize L12 = l
  intro e2
  rw [cutT_map, show (3 + (r : Int)) = ((3 + r : Nat) : Int) by omega, cutT_take _ _ (by omega), mkL_strs]
theorem pairs_map (g : Str → T) : ∀ ms : List Str, pairsOf (ms.map fun m => .tup [.str m, g m]) = some (ms.map Sum.inr, ms.map g)
  | [] => rfl
  | m :: ms => by simp [pairsOf, pairs_map g ms, T.key?]
theorem rep_flat (n : Nat) (x : Str) : mkL (List.replicate n [T.str x]).flatten = (true, strsT (List.replicate n x)) := by
  have : (List.replicate n [T.str x]).flatten = (List.replicate n x).map T.str := by
    induction n with
    | zero => rfl
    | succ n ih => rw [List.replicate_succ, List.flatten_cons, ih, List.replicate_succ]; rfl
  rw [this, mkL_strs]
theorem rep_strs (n : Nat) (xs : List Str) : mkL (List.replicate n (xs.map T.str)).flatten = (true, strsT (List.replicate n xs).flatten) := by
  have : (List.replicate n (xs.map T.str)).flatten = (List.replicate n xs).flatten.map T.str := by
    induction n with
    | zero => rfl
    | succ n ih => rw [List.replicate_succ, List.flatten_cons, ih, List.replicate_succ, List.flatten_cons, List.map_append]
  rw [this, mkL_strs]
theorem roMulA_rep {x : Str} {n : Nat} {Q : RK} {xs : List T} (hx : xs = [T.str x]) (hn : n ≤ 1000) (q : Q (true, strsT (List.replicate n x))) : roMulA (.lst xs) (.int n) Q := by
  subst hx
  refine Or.inr ⟨_, _, rfl, rfl, by omega, by omega, ?_, ?_⟩
  · rw [Int.toNat_natCast]
    show 1 * n ≤ sizeLine
    exact Nat.le_trans (by omega : 1 * n ≤ 1000) (by decide)
  · rw [Int.toNat_natCast, rep_flat]
    exact q
theorem roMulA_strs {n : Nat} {Q : RK} {ys : List Str} (hy : ys.length ≤ 100) (hn : n ≤ 1000) (q : Q (true, strsT (List.replicate n ys).flatten)) : roMulA (strsT ys) (.int n) Q := by
  refine Or.inr ⟨_, _, rfl, rfl, by omega, by omega, ?_, ?_⟩
  · rw [Int.toNat_natCast, List.length_map]
    exact Nat.le_trans (Nat.mul_le_mul hy hn) (by decide)
  · rw [Int.toNat_natCast, rep_strs]
    exact q
theorem roAdd_strs {xs ys : List Str} {Q : RK} (h : xs.length + ys.length ≤ 1000) (q : Q (true, strsT (xs ++ ys))) : roAdd (strsT xs) (strsT ys) Q := by
  refine Or.inr (Or.inr ⟨_, _, rfl, rfl, ?_, ?_⟩)
  · rw [List.length_map, List.length_map]
    exact Nat.le_trans h (by decide)
  · rw [← List.map_append, mkL_strs]
    exact q
theorem cut_last (xs : List Str) : mkL (cutT (xs.map T.str) none (some (-1))) = (true, strsT xs.dropLast) := by
  rw [cutT_map, mkL_strs]
  have e : cutT xs none (some (-1)) = xs.dropLast := by
    unfold cutT
    rw [HT.sIx_none]
    have h : HT.sIx xs.length xs.length (some (-1)) = xs.length - 1 := by
      show (if (-1 : Int) < 0 then ((-1 : Int) + (xs.length : Int)).toNat else min (-1 : Int).toNat xs.length) = _
      rw [if_pos (by decide)]
      omega
    rw [h, List.dropLast_eq_take]
    rfl
  rw [e]
theorem rev_strs (xs : List Str) : mkL (xs.map T.str).reverse = (true, strsT xs.reverse) := by
  rw [← List.map_reverse, mkL_strs]
theorem rep_mem {n : Nat} {xs : List Str} {y : Str} (h : y ∈ (List.replicate n xs).flatten) : y ∈ xs := by
  obtain ⟨l, h1, h2⟩ := List.mem_flatten.mp h
  rw [(List.mem_replicate.mp h1).2] at h2
  exact h2
theorem rep_len (n : Nat) (xs : List Str) : (List.replicate n xs).flatten.length = n * xs.length := by
  induction n with
  | zero => simp
  | succ n ih => rw [List.replicate_succ, List.flatten_cons, List.length_append, ih, Nat.succ_mul, Nat.add_comm]
theorem rep_count (n : Nat) (xs : List Str) (o : Str) : (List.replicate n xs).flatten.count o = n * xs.count o := by
  induction n with
  | zero => simp
  | succ n ih => rw [List.replicate_succ, List.flatten_cons, List.count_append, ih, Nat.succ_mul, Nat.add_comm]
section
variable {P : Program} {w : World} {K : PySem.W.Frag} {mg : Str → Option Value} {base : Heap}
def k_law (C_Lost : Addr) : CT := fun us Q => ∃ ns : List Int, us = [.rd (ns.map T.int)] ∧ ns.length ≤ 63 ∧ Q (false, .bl true)
theorem ok_law {f : Addr} {fd : FuncData} {C_Lost : Addr} (B : Blt mg) (TX : Txt K mg C_Lost) (G__law_tin : Callee P w K mg base "_law_tin" 1 2 (rc k__law_tin)) (G__law_arranged : Callee P w K mg base "_law_arranged" 1 1 (rc k__law_arranged)) (G_count_recoveries : Callee P w K mg base "count_recoveries" 6 4 (rc (k_count_recoveries C_Lost))) (G_possible_last_holders : Callee P w K mg base "possible_last_holders" 6 4 (rc (k_possible_last_holders C_Lost))) (G_nth_recovery : Callee P w K mg base "nth_recovery" 6 5 (rc (k_nth_recovery C_Lost))) (G__law_pinch : Callee P w K mg base "_law_pinch" 1 2 k__law_pinch) (F : Fun K "law" "law" s_law f fd) : FnOk P w K mg base CX0 7 f fd ["_law_script"] (spOf K 1 (rc (k_law C_Lost))) := by
  refine fn_r (k := 6) F sc_law rfl fun cdv A outer s H E hr => ⟨_, (qss_cons (qs_for PassesOwn.never rfl (qi_range1 rfl B.range (qa_cons (q_max rfl rfl B.max (qa_cons (qe_c pe_int) (qa_cons (q_min rfl rfl B.min (qa_cons (qe_c pe_int) (qa_cons (q_len rfl B.len (qa_cons (qe_var (pv 0)) qa_nil)) qa_nil))) qa_nil))) qa_nil)) (gq_name (pg_name (i := 1) sc_law.nd rfl (by first | exact Or.inl rfl | exact Or.inr rfl))) (qss_cons (qs_set (ps_set (i := 2) sc_law.nd rfl (by first | exact Or.inl rfl | exact Or.inr rfl) (q_callC G__law_tin hr (by decide) rfl (qa_cons (qe_var (pv 0)) (qa_cons (qe_var (pv 1)) qa_nil)))) (hp := by decide))
      (qss_cons (qs_setF (ps_set (i := 3) sc_law.nd rfl (by first | exact Or.inl rfl | exact Or.inr rfl) (q_sl (q_list rfl rfl B.list (qa_cons (qe_c pe_str) qa_nil)) qo_none (qo_some (q_add (qe_c pe_int) (q_callC G__law_pinch hr (by decide) rfl (qa_slot (pv 2) (qa_cons (qe_c pe_int) qa_nil))))))) (hp := by decide))
      (qss_cons (qs_tupSet (js := [4, 5]) (bs := [true, true]) (ps_asg (pe_tup (qa_cons (q_ix (qe_var (pv 3)) (q_callC G__law_pinch hr (by decide) rfl (qa_slot (pv 2) (qa_cons (q_len rfl B.len (qa_cons (qe_var (pv 3)) qa_nil)) qa_nil)))) (qa_cons (q_add (qe_c pe_int) (q_callC G__law_pinch hr (by decide) rfl (qa_slot (pv 2) (qa_cons (qe_c pe_int) qa_nil)))) qa_nil))) (pg_tup (n := 2) rfl (pgs_cons (pg_name (i := 4) sc_law.nd rfl (by first | exact Or.inl rfl | exact Or.inr rfl)) (pgs_cons (pg_name (i := 5) sc_law.nd rfl (by first | exact Or.inl rfl | exact Or.inr rfl)) pgs_nil)))) rfl (by decide) (hp := by decide))
      (qss_cons (qs_setF (ps_setLcQ (i := 6) (own := [("_law_member", 15)]) rfl sc_law.nd rfl rfl (sw_true rfl rfl rfl (by decide +kernel)) (qi_list (qe_var (pv 3))) (blkOk_by (N := N_law) (sc := defScope s_law) (by decide +kernel)) (fun _ _ _ _ _ => (gq_name (pg_name (i := 15) sc_law.nd rfl (by first | exact Or.inl rfl | exact Or.inr rfl)))) (fun _ _ _ _ _ => (qts_one (qt_cmp (qc_ne (Room.hu hr)) (qe_var (pv 15)) (qe_var (pv 4)) (by rfl)))) (fun _ _ _ _ _ => (qe_var (pv 15)))) (hp := by decide))
      (qss_cons (qs_setF (ps_set (i := 7) sc_law.nd rfl (by first | exact Or.inl rfl | exact Or.inr rfl) (q_dictP rfl rfl B.dict (qa_cons (q_lc (own := [("_law_member", 15)]) rfl sc_law.nd (qi_list (qe_var (pv 3))) (blkOk_by (N := N_law) (sc := defScope s_law) (by decide +kernel)) (fun _ _ _ _ _ => (gq_name (pg_name (i := 15) sc_law.nd rfl (by first | exact Or.inl rfl | exact Or.inr rfl)))) (fun _ _ _ _ _ => qts_nil) (fun _ _ _ _ _ => (q_tupO (qa_cons (qe_var (pv 15)) (qa_cons (q_if (qt_cmp (qc_ne (Room.hu hr)) (qe_var (pv 15)) (qe_var (pv 4)) (by rfl)) (q_mul (q_lstO (qa_cons (qe_var (pv 4)) qa_nil)) (qe_var (pv 5))) (q_lstO qa_nil)) qa_nil))))) qa_nil))) (hp := by decide))
      (qss_cons (qs_setF (ps_set (i := 8) sc_law.nd rfl (by first | exact Or.inl rfl | exact Or.inr rfl) (q_mul (qe_var (pv 6)) (qe_var (pv 5)))) (hp := by decide))
      (qss_cons (qs_setF (ps_set (i := 9) sc_law.nd rfl (by first | exact Or.inl rfl | exact Or.inr rfl) (q_mul (qe_c pe_int) (q_callC G__law_arranged hr (by decide) rfl (qa_cons (qe_var (pv 8)) qa_nil)))) (hp := by decide))
      (qss_cons (qs_if (qt_cmp (qc_ne (Room.hu hr)) (q_callC G_count_recoveries hr (by decide) rfl (qa_cons (qe_var (pv 3)) (qa_cons (qe_var (pv 4)) (qa_cons (qe_var (pv 7)) (qa_cons (qe_var (pv 4)) qa_nil))))) (qe_var (pv 9)) (by rfl)) (qss_one (qs_ret (qe_c pe_bl))) qss_nil)
      (qss_cons (qs_if (qt_cmp (qc_ne (Room.hu hr)) (q_callC G_possible_last_holders hr (by decide) rfl (qa_cons (qe_var (pv 3)) (qa_cons (qe_var (pv 4)) (qa_cons (qe_var (pv 7)) (qa_cons (qe_var (pv 4)) qa_nil))))) (qe_var (pv 3)) (by rfl)) (qss_one (qs_ret (qe_c pe_bl))) qss_nil)
      (qss_cons (qs_setF (ps_set (i := 10) sc_law.nd rfl (by first | exact Or.inl rfl | exact Or.inr rfl) (q_dget (Room.hu1 hr) (q_callC G_nth_recovery hr (by decide) rfl (qa_cons (qe_var (pv 3)) (qa_cons (qe_var (pv 4)) (qa_cons (qe_var (pv 7)) (qa_cons (qe_var (pv 4)) (qa_cons (qe_c pe_int) qa_nil)))))) (qe_var (pv 4)) (fun _ _ => rfl))) (hp := by decide))
      (qss_cons (qs_setF (ps_set (i := 11) sc_law.nd rfl (by first | exact Or.inl rfl | exact Or.inr rfl) (q_dget (Room.hu1 hr) (q_callC G_nth_recovery hr (by decide) rfl (qa_cons (qe_var (pv 3)) (qa_cons (qe_var (pv 4)) (qa_cons (qe_var (pv 7)) (qa_cons (qe_var (pv 4)) (qa_cons (q_sub (qe_var (pv 9)) (qe_c pe_int)) qa_nil)))))) (qe_var (pv 4)) (fun _ _ => rfl))) (hp := by decide))
      (qss_cons (qs_if (QW.qt (qw_or (qt_cmp (qc_ne (Room.hu hr)) (qe_var (pv 10)) (q_sl (q_sorted rfl rfl B.sorted (qa_cons (qe_var (pv 8)) qa_nil)) qo_none (qo_some (q_neg (qe_c pe_int)))) (by rfl)) (qw_or1 (qt_cmp (qc_ne (Room.hu hr)) (qe_var (pv 11)) (q_rev (q_sorted rfl rfl B.sorted (qa_cons (qe_var (pv 8)) qa_nil))) (by rfl))))) (qss_one (qs_ret (qe_c pe_bl))) qss_nil)
      (qss_cons (qs_setF (ps_set (i := 12) sc_law.nd rfl (by first | exact Or.inl rfl | exact Or.inr rfl) (q_ix (qe_var (pv 6)) (q_callC G__law_pinch hr (by decide) rfl (qa_slot (pv 2) (qa_cons (q_len rfl B.len (qa_cons (qe_var (pv 6)) qa_nil)) qa_nil))))) (hp := by decide))
      (qss_cons (qs_setF (ps_set (i := 8) sc_law.nd rfl (by first | exact Or.inl rfl | exact Or.inr rfl) (q_sorted rfl rfl B.sorted (qa_cons (q_add (q_mul (qe_var (pv 6)) (qe_var (pv 5))) (q_lstO (qa_cons (qe_var (pv 12)) qa_nil))) qa_nil))) (hp := by decide))
      (qss_cons (qs_set (ps_set (i := 13) sc_law.nd rfl (by first | exact Or.inl rfl | exact Or.inr rfl) (q_list rfl rfl B.list (qa_cons (qe_var (pv 8)) qa_nil))) (hp := by decide))
      (qss_cons (qs_expr (q_lop PySem.F.slot_list_remove PySem.F.type_list_remove mt_removeV lop_remove (qp_slot (pv 13)) (qa_cons (qe_var (pv 12)) qa_nil)))
      (qss_cons (qs_setF (ps_set (i := 14) sc_law.nd rfl (by first | exact Or.inl rfl | exact Or.inr rfl) (q_quiet (q_mul (qe_c pe_int) (q_callC G__law_arranged hr (by decide) rfl (qa_cons (qe_var (pv 13)) qa_nil))))) (hp := by decide))
      (qss_cons (qs_if (qt_cmp (qc_ne (Room.hu hr)) (q_callC G_count_recoveries hr (by decide) rfl (qa_cons (qe_var (pv 3)) (qa_cons (qe_var (pv 12)) (qa_cons (qe_var (pv 7)) (qa_cons (qe_var (pv 4)) qa_nil))))) (qe_var (pv 14)) (by rfl)) (qss_one (qs_ret (qe_c pe_bl))) qss_nil)
      (qss_cons (qs_if (qt_quiet (qt_cmp (qc_ne (Room.hu hr)) (q_dget (Room.hu1 hr) (q_callC G_nth_recovery hr (by decide) rfl (qa_cons (qe_var (pv 3)) (qa_cons (qe_var (pv 12)) (qa_cons (qe_var (pv 7)) (qa_cons (qe_var (pv 4)) (qa_cons (qe_c pe_int) qa_nil)))))) (qe_var (pv 4)) (fun _ _ => rfl)) (q_add (q_lstO (qa_cons (qe_var (pv 12)) qa_nil)) (q_sl (qe_var (pv 13)) qo_none (qo_some (q_neg (qe_c pe_int))))) (by rfl))) (qss_one (qs_ret (qe_c pe_bl))) qss_nil)
      (qss_one (qs_if (qt_quiet (qt_cmp (qc_ne (Room.hu hr)) (q_dget (Room.hu1 hr) (q_callC G_nth_recovery hr (by decide) rfl (qa_cons (qe_var (pv 3)) (qa_cons (qe_var (pv 12)) (qa_cons (qe_var (pv 7)) (qa_cons (qe_var (pv 4)) (qa_cons (q_sub (qe_var (pv 14)) (qe_c pe_int)) qa_nil)))))) (qe_var (pv 4)) (fun _ _ => rfl)) (q_add (q_lstO (qa_cons (qe_var (pv 12)) qa_nil)) (q_rev (qe_var (pv 13)))) (by rfl))) (qss_one (qs_ret (qe_c pe_bl))) qss_nil))))))))))))))))))))) (hpn := by decide))
      (qss_one (qs_ret (qe_c pe_bl)))), ?_⟩
  -- names: 0 _law_script, 1 _law_k, 2 _law_tin_here, 3 _law_members, 4 _law_centre, 5 _law_laps, 6 _law_others, 7 _law_lists, 8 _law_names, 9 _law_due, 10 _law_least, 11 _law_most, 12 _law_first, 13 _law_rest, 14 _law_rows, 15 _law_member
  rintro us Q hl ⟨ns, rfl, hn, q⟩
  repeat (first | refine ⟨_, rfl, rfl, List.nodup_nil, ?_⟩ | refine ⟨_, rfl, Nat.le_of_ble_eq_true rfl, ?_⟩ | refine ⟨_, rfl, ?_⟩ | refine ⟨_, _, rfl, rfl, ?_⟩ | refine ⟨_, _, _, rfl, rfl, by decide +kernel, ?_⟩ | refine Or.inl ⟨_, rfl, ?_⟩ | refine Or.inr ⟨_, rfl, ?_⟩ | refine Or.inl ⟨_, _, rfl, rfl, ?_⟩ | refine ⟨_, _, rfl, ?_⟩ | refine ⟨rfl, ?_⟩ | refine ⟨⟨_, rfl⟩, ?_⟩ | refine Or.inl ⟨_, _, _, rfl, rfl, rfl, ?_⟩ | refine ⟨_, _, _, rfl, rfl, ?_⟩)
  generalize hj : (if (if ((List.map T.int ns).length : Int) < 4 then ((List.map T.int ns).length : Int) else 4) > 1 then (if ((List.map T.int ns).length : Int) < 4 then ((List.map T.int ns).length : Int) else 4) else 1) = j
  have hb : 1 ≤ j ∧ j ≤ 4 := by
    rw [← hj]
    split <;> split <;> constructor <;> omega
  refine ⟨by omega, by omega, ?_⟩
  refine for_upto 0 j.toNat (fun i e => ∃ o1 o2 o3 o4 o5 o6 o7 o8 o9 o10 o11 o12 o13 o14, e = [some (false, .rd (ns.map T.int)), o1, o2, o3, o4, o5, o6, o7, o8, o9, o10, o11, o12, o13, o14, none]) ⟨none, none, none, none, none, none, none, none, none, none, none, none, none, none, rfl⟩ ?_ ?_
  · rintro k hk e N0 ⟨o1, o2, o3, o4, o5, o6, o7, o8, o9, o10, o11, o12, o13, o14, rfl⟩ hN0
    refine seqJ (fun e => ∃ a b : Int, e = [some (false, .rd (ns.map T.int)), some (false, .int (0 + (k : Int))), some (true, tinT a b 0), o3, o4, o5, o6, o7, o8, o9, o10, o11, o12, o13, o14, none] ∧ 0 ≤ a ∧ 0 ≤ b ∧ b < 2 ^ 200) ?_ ?_
    rotate_left
    · intro N hN
      repeat (first | refine ⟨_, rfl, rfl, List.nodup_nil, ?_⟩ | refine ⟨_, rfl, Nat.le_of_ble_eq_true rfl, ?_⟩ | refine ⟨_, rfl, ?_⟩ | refine ⟨_, _, rfl, rfl, ?_⟩ | refine ⟨_, _, _, rfl, rfl, by decide +kernel, ?_⟩ | refine Or.inl ⟨_, rfl, ?_⟩ | refine Or.inr ⟨_, rfl, ?_⟩ | refine Or.inl ⟨_, _, rfl, rfl, ?_⟩ | refine ⟨_, _, rfl, ?_⟩ | refine ⟨rfl, ?_⟩ | refine ⟨⟨_, rfl⟩, ?_⟩ | refine Or.inl ⟨_, _, _, rfl, rfl, rfl, ?_⟩ | refine ⟨_, _, _, rfl, rfl, ?_⟩)
      refine ⟨Nat.le_trans (Nat.le_of_eq (Nat.zero_add k)) (by omega), fun a b ha hb1 hb2 => ?_⟩
      exact hN _ ⟨a, b, rfl, ha, hb1, hb2⟩
    rintro e ⟨a, b, rfl, ha, hb1, hb2⟩
    refine seqJ (fun e => ∃ (a1 t1 : Int) (r : Nat), e = [some (false, .rd (ns.map T.int)), some (false, .int (0 + (k : Int))), some (true, tinT a1 b t1), some (false, strsT (msOf r)), o4, o5, o6, o7, o8, o9, o10, o11, o12, o13, o14, none] ∧ r < 10 ∧ 0 ≤ a1 ∧ 0 ≤ t1 ∧ t1 ≤ 1) ?_ ?_
    rotate_left
    · intro N hN
      repeat (first | refine ⟨_, rfl, rfl, List.nodup_nil, ?_⟩ | refine ⟨_, rfl, Nat.le_of_ble_eq_true rfl, ?_⟩ | refine ⟨_, rfl, ?_⟩ | refine ⟨_, _, rfl, rfl, ?_⟩ | refine ⟨_, _, _, rfl, rfl, by decide +kernel, ?_⟩ | refine Or.inl ⟨_, rfl, ?_⟩ | refine Or.inr ⟨_, rfl, ?_⟩ | refine Or.inl ⟨_, _, rfl, rfl, ?_⟩ | refine ⟨_, _, rfl, ?_⟩ | refine ⟨rfl, ?_⟩ | refine ⟨⟨_, rfl⟩, ?_⟩ | refine Or.inl ⟨_, _, _, rfl, rfl, rfl, ?_⟩ | refine ⟨_, _, _, rfl, rfl, ?_⟩)
      refine Or.inr (Or.inl ⟨_, rfl, by decide +kernel, ?_⟩)
      repeat (first | refine ⟨_, rfl, rfl, List.nodup_nil, ?_⟩ | refine ⟨_, rfl, Nat.le_of_ble_eq_true rfl, ?_⟩ | refine ⟨_, rfl, ?_⟩ | refine ⟨_, _, rfl, rfl, ?_⟩ | refine ⟨_, _, _, rfl, rfl, by decide +kernel, ?_⟩ | refine Or.inl ⟨_, rfl, ?_⟩ | refine Or.inr ⟨_, rfl, ?_⟩ | refine Or.inl ⟨_, _, rfl, rfl, ?_⟩ | refine ⟨_, _, rfl, ?_⟩ | refine ⟨rfl, ?_⟩ | refine ⟨⟨_, rfl⟩, ?_⟩ | refine Or.inl ⟨_, _, _, rfl, rfl, rfl, ?_⟩ | refine ⟨_, _, _, rfl, rfl, ?_⟩)
      refine ⟨show ([2] : List Nat).Nodup by decide, a, b, 0, 10, rfl, ha, hb1, hb2, by decide, by decide, by decide, by decide, fun r a1 t1 hr ha1 ht1 ht1' => ?_⟩
      refine Or.inl ⟨_, _, rfl, rfl, _, rfl, Or.inl ⟨_, rfl, ?_⟩⟩
      rw [show mkL (cutT (signsT "abcdefghijkl") none (some (3 + ((r : Nat) : Int)))) = _ from msOf_eq hr]
      exact hN _ ⟨a1, t1, r, rfl, hr, ha1, ht1, by omega⟩
    rintro e ⟨a1, t1, r, rfl, hr, ha1, ht1, ht1'⟩
    have hml := msOf_len r hr
    refine seqJ (fun e => ∃ (a3 t3 : Int) (x : Str) (laps : Nat), e = [some (false, .rd (ns.map T.int)), some (false, .int (0 + (k : Int))), some (true, tinT a3 b t3), some (false, strsT (msOf r)), some (false, .str x), some (false, .int (laps : Nat)), o6, o7, o8, o9, o10, o11, o12, o13, o14, none] ∧ x ∈ msOf r ∧ 1 ≤ laps ∧ laps ≤ 5 ∧ 0 ≤ a3 ∧ 0 ≤ t3 ∧ t3 ≤ 3) ?_ ?_
    rotate_left
    · intro N hN
      repeat (first | refine ⟨_, rfl, rfl, List.nodup_nil, ?_⟩ | refine ⟨_, rfl, Nat.le_of_ble_eq_true rfl, ?_⟩ | refine ⟨_, rfl, ?_⟩ | refine ⟨_, _, rfl, rfl, ?_⟩ | refine ⟨_, _, _, rfl, rfl, by decide +kernel, ?_⟩ | refine Or.inl ⟨_, rfl, ?_⟩ | refine Or.inr ⟨_, rfl, ?_⟩ | refine Or.inl ⟨_, _, rfl, rfl, ?_⟩ | refine ⟨_, _, rfl, ?_⟩ | refine ⟨rfl, ?_⟩ | refine ⟨⟨_, rfl⟩, ?_⟩ | refine Or.inl ⟨_, _, _, rfl, rfl, rfl, ?_⟩ | refine ⟨_, _, _, rfl, rfl, ?_⟩)
      refine ⟨show ([2] : List Nat).Nodup by decide, a1, b, t1, _, rfl, ha1, hb1, hb2, ht1, by omega, by simp; omega, by simp; omega, fun r2 a2 t2 hr2 ha2 ht2 ht2' => ?_⟩
      rw [List.length_map] at hr2
      refine Or.inl ⟨_, _, .str (msOf r)[r2], rfl, rfl, atI_nat (by rw [List.getElem?_map, List.getElem?_eq_getElem hr2]; rfl), ?_⟩
      repeat (first | refine ⟨_, rfl, rfl, List.nodup_nil, ?_⟩ | refine ⟨_, rfl, Nat.le_of_ble_eq_true rfl, ?_⟩ | refine ⟨_, rfl, ?_⟩ | refine ⟨_, _, rfl, rfl, ?_⟩ | refine ⟨_, _, _, rfl, rfl, by decide +kernel, ?_⟩ | refine Or.inl ⟨_, rfl, ?_⟩ | refine Or.inr ⟨_, rfl, ?_⟩ | refine Or.inl ⟨_, _, rfl, rfl, ?_⟩ | refine ⟨_, _, rfl, ?_⟩ | refine ⟨rfl, ?_⟩ | refine ⟨⟨_, rfl⟩, ?_⟩ | refine Or.inl ⟨_, _, _, rfl, rfl, rfl, ?_⟩ | refine ⟨_, _, _, rfl, rfl, ?_⟩)
      refine ⟨show ([2] : List Nat).Nodup by decide, a2, b, t2, 5, rfl, ha2, hb1, hb2, ht2, by omega, by decide, by decide, fun r3 a3 t3 hr3 ha3 ht3 ht3' => ?_⟩
      refine Or.inl ⟨_, _, rfl, rfl, ?_⟩
      refine ⟨_, rfl, rfl, ?_⟩
      refine hN _ ⟨a3, t3, (msOf r)[r2], 1 + r3, ?_, List.getElem_mem _, by omega, by omega, ha3, ht3, by omega⟩
      exact congrArg (fun z => [some (false, .rd (ns.map T.int)), some (false, .int (0 + (k : Int))), some (true, tinT a3 b t3), some (false, strsT (msOf r)), some (false, .str (msOf r)[r2]), some (false, .int z), o6, o7, o8, o9, o10, o11, o12, o13, o14, none]) (show (1 : Int) + (r3 : Int) = ((1 + r3 : Nat) : Int) by omega)
    rintro e ⟨a3, t3, x, laps, rfl, hx, hl1, hl5, ha3, ht3, ht3'⟩
    have hgA := msOf_law hr hx hx hl1 hl5
    have hol := hgA.olen
    refine seqJ (fun e => e = [some (false, .rd (ns.map T.int)), some (false, .int (0 + (k : Int))), some (true, tinT a3 b t3), some (false, strsT (msOf r)), some (false, .str x), some (false, .int (laps : Nat)), some (false, strsT (oth (msOf r) x)), o7, o8, o9, o10, o11, o12, o13, o14, none]) ?_ ?_
    rotate_left
    · intro N hN
      repeat (first | refine ⟨_, rfl, rfl, List.nodup_nil, ?_⟩ | refine ⟨_, rfl, Nat.le_of_ble_eq_true rfl, ?_⟩ | refine ⟨_, rfl, ?_⟩ | refine ⟨_, _, rfl, rfl, ?_⟩ | refine ⟨_, _, _, rfl, rfl, by decide +kernel, ?_⟩ | refine Or.inl ⟨_, rfl, ?_⟩ | refine Or.inr ⟨_, rfl, ?_⟩ | refine Or.inl ⟨_, _, rfl, rfl, ?_⟩ | refine ⟨_, _, rfl, ?_⟩ | refine ⟨rfl, ?_⟩ | refine ⟨⟨_, rfl⟩, ?_⟩ | refine Or.inl ⟨_, _, _, rfl, rfl, rfl, ?_⟩ | refine ⟨_, _, _, rfl, rfl, ?_⟩)
      refine ⟨by simp; omega, lc_flt T.str (fun o => decide (o ≠ x)) (fun o => (false, .str o)) (msOf r) (fun c hc Kb k1 k2 => ?_) ?_⟩
      · repeat (first | refine ⟨_, rfl, rfl, List.nodup_nil, ?_⟩ | refine ⟨_, rfl, Nat.le_of_ble_eq_true rfl, ?_⟩ | refine ⟨_, rfl, ?_⟩ | refine ⟨_, _, rfl, rfl, ?_⟩ | refine ⟨_, _, _, rfl, rfl, by decide +kernel, ?_⟩ | refine Or.inl ⟨_, rfl, ?_⟩ | refine Or.inr ⟨_, rfl, ?_⟩ | refine Or.inl ⟨_, _, rfl, rfl, ?_⟩ | refine ⟨_, _, rfl, ?_⟩ | refine ⟨rfl, ?_⟩ | refine ⟨⟨_, rfl⟩, ?_⟩ | refine Or.inl ⟨_, _, _, rfl, rfl, rfl, ?_⟩ | refine ⟨_, _, _, rfl, rfl, ?_⟩)
        refine ⟨_, teq_str (hgA.good c hc).ok (hgA.good x hx).ok, ?_⟩
        repeat (first | refine ⟨_, rfl, rfl, List.nodup_nil, ?_⟩ | refine ⟨_, rfl, Nat.le_of_ble_eq_true rfl, ?_⟩ | refine ⟨_, rfl, ?_⟩ | refine ⟨_, _, rfl, rfl, ?_⟩ | refine ⟨_, _, _, rfl, rfl, by decide +kernel, ?_⟩ | refine Or.inl ⟨_, rfl, ?_⟩ | refine Or.inr ⟨_, rfl, ?_⟩ | refine Or.inl ⟨_, _, rfl, rfl, ?_⟩ | refine ⟨_, _, rfl, ?_⟩ | refine ⟨rfl, ?_⟩ | refine ⟨⟨_, rfl⟩, ?_⟩ | refine Or.inl ⟨_, _, _, rfl, rfl, rfl, ?_⟩ | refine ⟨_, _, _, rfl, rfl, ?_⟩)
        by_cases h : c = x
        · refine iteFq (by simp [h]) ?_
          exact k2 (by simp [h])
        · refine iteTq (by simp [h]) ?_
          repeat (first | refine ⟨_, rfl, rfl, List.nodup_nil, ?_⟩ | refine ⟨_, rfl, Nat.le_of_ble_eq_true rfl, ?_⟩ | refine ⟨_, rfl, ?_⟩ | refine ⟨_, _, rfl, rfl, ?_⟩ | refine ⟨_, _, _, rfl, rfl, by decide +kernel, ?_⟩ | refine Or.inl ⟨_, rfl, ?_⟩ | refine Or.inr ⟨_, rfl, ?_⟩ | refine Or.inl ⟨_, _, rfl, rfl, ?_⟩ | refine ⟨_, _, rfl, ?_⟩ | refine ⟨rfl, ?_⟩ | refine ⟨⟨_, rfl⟩, ?_⟩ | refine Or.inl ⟨_, _, _, rfl, rfl, rfl, ?_⟩ | refine ⟨_, _, _, rfl, rfl, ?_⟩)
          exact k1 (by simp [h])
      rw [mkR_map]
      exact hN _ rfl
    rintro e rfl
    refine seqJ (fun e => e = [some (false, .rd (ns.map T.int)), some (false, .int (0 + (k : Int))), some (true, tinT a3 b t3), some (false, strsT (msOf r)), some (false, .str x), some (false, .int (laps : Nat)), some (false, strsT (oth (msOf r) x)), some (false, listsT (msOf r) (LL x laps)), o8, o9, o10, o11, o12, o13, o14, none]) ?_ ?_
    rotate_left
    · intro N hN
      repeat (first | refine ⟨_, rfl, rfl, List.nodup_nil, ?_⟩ | refine ⟨_, rfl, Nat.le_of_ble_eq_true rfl, ?_⟩ | refine ⟨_, rfl, ?_⟩ | refine ⟨_, _, rfl, rfl, ?_⟩ | refine ⟨_, _, _, rfl, rfl, by decide +kernel, ?_⟩ | refine Or.inl ⟨_, rfl, ?_⟩ | refine Or.inr ⟨_, rfl, ?_⟩ | refine Or.inl ⟨_, _, rfl, rfl, ?_⟩ | refine ⟨_, _, rfl, ?_⟩ | refine ⟨rfl, ?_⟩ | refine ⟨⟨_, rfl⟩, ?_⟩ | refine Or.inl ⟨_, _, _, rfl, rfl, rfl, ?_⟩ | refine ⟨_, _, _, rfl, rfl, ?_⟩)
      refine ⟨by simp; omega, lc_map T.str (fun m => (true, .tup [.str m, strsT (LL x laps m)])) (msOf r) (fun c hc Kb hk => ?_) ?_⟩
      · repeat (first | refine ⟨_, rfl, rfl, List.nodup_nil, ?_⟩ | refine ⟨_, rfl, Nat.le_of_ble_eq_true rfl, ?_⟩ | refine ⟨_, rfl, ?_⟩ | refine ⟨_, _, rfl, rfl, ?_⟩ | refine ⟨_, _, _, rfl, rfl, by decide +kernel, ?_⟩ | refine Or.inl ⟨_, rfl, ?_⟩ | refine Or.inr ⟨_, rfl, ?_⟩ | refine Or.inl ⟨_, _, rfl, rfl, ?_⟩ | refine ⟨_, _, rfl, ?_⟩ | refine ⟨rfl, ?_⟩ | refine ⟨⟨_, rfl⟩, ?_⟩ | refine Or.inl ⟨_, _, _, rfl, rfl, rfl, ?_⟩ | refine ⟨_, _, _, rfl, rfl, ?_⟩)
        refine ⟨_, teq_str (hgA.good c hc).ok (hgA.good x hx).ok, ?_⟩
        repeat (first | refine ⟨_, rfl, rfl, List.nodup_nil, ?_⟩ | refine ⟨_, rfl, Nat.le_of_ble_eq_true rfl, ?_⟩ | refine ⟨_, rfl, ?_⟩ | refine ⟨_, _, rfl, rfl, ?_⟩ | refine ⟨_, _, _, rfl, rfl, by decide +kernel, ?_⟩ | refine Or.inl ⟨_, rfl, ?_⟩ | refine Or.inr ⟨_, rfl, ?_⟩ | refine Or.inl ⟨_, _, rfl, rfl, ?_⟩ | refine ⟨_, _, rfl, ?_⟩ | refine ⟨rfl, ?_⟩ | refine ⟨⟨_, rfl⟩, ?_⟩ | refine Or.inl ⟨_, _, _, rfl, rfl, rfl, ?_⟩ | refine ⟨_, _, _, rfl, rfl, ?_⟩)
        by_cases h : c = x
        · refine iteFq (by simp [h]) ?_
          have e : LL x laps c = [] := by unfold LL; rw [if_pos h]
          rw [e] at hk
          repeat (first | refine ⟨_, rfl, rfl, List.nodup_nil, ?_⟩ | refine ⟨_, rfl, Nat.le_of_ble_eq_true rfl, ?_⟩ | refine ⟨_, rfl, ?_⟩ | refine ⟨_, _, rfl, rfl, ?_⟩ | refine ⟨_, _, _, rfl, rfl, by decide +kernel, ?_⟩ | refine Or.inl ⟨_, rfl, ?_⟩ | refine Or.inr ⟨_, rfl, ?_⟩ | refine Or.inl ⟨_, _, rfl, rfl, ?_⟩ | refine ⟨_, _, rfl, ?_⟩ | refine ⟨rfl, ?_⟩ | refine ⟨⟨_, rfl⟩, ?_⟩ | refine Or.inl ⟨_, _, _, rfl, rfl, rfl, ?_⟩ | refine ⟨_, _, _, rfl, rfl, ?_⟩)
          exact hk
        · refine iteTq (by simp [h]) ?_
          have e : LL x laps c = List.replicate laps x := by unfold LL; rw [if_neg h]
          rw [e] at hk
          repeat (first | refine ⟨_, rfl, rfl, List.nodup_nil, ?_⟩ | refine ⟨_, rfl, Nat.le_of_ble_eq_true rfl, ?_⟩ | refine ⟨_, rfl, ?_⟩ | refine ⟨_, _, rfl, rfl, ?_⟩ | refine ⟨_, _, _, rfl, rfl, by decide +kernel, ?_⟩ | refine Or.inl ⟨_, rfl, ?_⟩ | refine Or.inr ⟨_, rfl, ?_⟩ | refine Or.inl ⟨_, _, rfl, rfl, ?_⟩ | refine ⟨_, _, rfl, ?_⟩ | refine ⟨rfl, ?_⟩ | refine ⟨⟨_, rfl⟩, ?_⟩ | refine Or.inl ⟨_, _, _, rfl, rfl, rfl, ?_⟩ | refine ⟨_, _, _, rfl, rfl, ?_⟩)
          refine roMulA_rep rfl (by omega) ?_
          repeat (first | refine ⟨_, rfl, rfl, List.nodup_nil, ?_⟩ | refine ⟨_, rfl, Nat.le_of_ble_eq_true rfl, ?_⟩ | refine ⟨_, rfl, ?_⟩ | refine ⟨_, _, rfl, rfl, ?_⟩ | refine ⟨_, _, _, rfl, rfl, by decide +kernel, ?_⟩ | refine Or.inl ⟨_, rfl, ?_⟩ | refine Or.inr ⟨_, rfl, ?_⟩ | refine Or.inl ⟨_, _, rfl, rfl, ?_⟩ | refine ⟨_, _, rfl, ?_⟩ | refine ⟨rfl, ?_⟩ | refine ⟨⟨_, rfl⟩, ?_⟩ | refine Or.inl ⟨_, _, _, rfl, rfl, rfl, ?_⟩ | refine ⟨_, _, _, rfl, rfl, ?_⟩)
          exact hk
      rw [mkR_map]
      refine ⟨_, _, _, _, rfl, rfl, pairs_map _ _, nodup_inr hgA.nd, ?_⟩
      exact hN _ rfl
    rintro e rfl
    refine seqJ (fun e => e = [some (false, .rd (ns.map T.int)), some (false, .int (0 + (k : Int))), some (true, tinT a3 b t3), some (false, strsT (msOf r)), some (false, .str x), some (false, .int (laps : Nat)), some (false, strsT (oth (msOf r) x)), some (false, listsT (msOf r) (LL x laps)), some (false, strsT (List.replicate laps (oth (msOf r) x)).flatten), o9, o10, o11, o12, o13, o14, none]) ?_ ?_
    rotate_left
    · intro N hN
      repeat (first | refine ⟨_, rfl, rfl, List.nodup_nil, ?_⟩ | refine ⟨_, rfl, Nat.le_of_ble_eq_true rfl, ?_⟩ | refine ⟨_, rfl, ?_⟩ | refine ⟨_, _, rfl, rfl, ?_⟩ | refine ⟨_, _, _, rfl, rfl, by decide +kernel, ?_⟩ | refine Or.inl ⟨_, rfl, ?_⟩ | refine Or.inr ⟨_, rfl, ?_⟩ | refine Or.inl ⟨_, _, rfl, rfl, ?_⟩ | refine ⟨_, _, rfl, ?_⟩ | refine ⟨rfl, ?_⟩ | refine ⟨⟨_, rfl⟩, ?_⟩ | refine Or.inl ⟨_, _, _, rfl, rfl, rfl, ?_⟩ | refine ⟨_, _, _, rfl, rfl, ?_⟩)
      refine roMulA_strs (by omega) (by omega) ?_
      exact hN _ rfl
    rintro e rfl
    have hcA : cnt (List.replicate laps (oth (msOf r) x)).flatten = fun o => if o ∈ oth (msOf r) x then c0 x laps o else 0 := by
      funext o
      unfold cnt
      rw [rep_count, count_nd hgA.ond]
      by_cases h : o ∈ oth (msOf r) x
      · have h2 : o ≠ x := by simpa using (List.mem_filter.mp h).2
        simp [h, c0, h2]
      · simp [h]
    have hMA : M (oth (msOf r) x) (cnt (List.replicate laps (oth (msOf r) x)).flatten) = M (oth (msOf r) x) (c0 x laps) := by
      rw [hcA]
      unfold M
      rw [List.map_congr_left fun o ho => if_pos ho]
    have hlen : (List.replicate laps (oth (msOf r) x)).flatten.length ≤ 55 := by
      rw [rep_len]
      exact Nat.le_trans (Nat.mul_le_mul hl5 hol.2) (by decide)
    have htA := hgA.tot
    have hwA := all_whole (x := x) (ms := msOf r) (c := c0 x laps) hgA.ond htA.1
    have hMl := log_fac (n := 56) (by decide) (Nat.le_trans (M_le (oth (msOf r) x) (c0 x laps)) (fac_mono htA.2))
    have e2M : (2 : Int) * (M (oth (msOf r) x) (c0 x laps) : Int) = (frmT (msOf r) x x (c0 x laps) : Int) := by rw [hwA]; simp
    refine seqJ (fun e => e = [some (false, .rd (ns.map T.int)), some (false, .int (0 + (k : Int))), some (true, tinT a3 b t3), some (false, strsT (msOf r)), some (false, .str x), some (false, .int (laps : Nat)), some (false, strsT (oth (msOf r) x)), some (false, listsT (msOf r) (LL x laps)), some (false, strsT (List.replicate laps (oth (msOf r) x)).flatten), some (false, .int (frmT (msOf r) x x (c0 x laps) : Nat)), o10, o11, o12, o13, o14, none]) ?_ ?_
    rotate_left
    · intro N hN
      repeat (first | refine ⟨_, rfl, rfl, List.nodup_nil, ?_⟩ | refine ⟨_, rfl, Nat.le_of_ble_eq_true rfl, ?_⟩ | refine ⟨_, rfl, ?_⟩ | refine ⟨_, _, rfl, rfl, ?_⟩ | refine ⟨_, _, _, rfl, rfl, by decide +kernel, ?_⟩ | refine Or.inl ⟨_, rfl, ?_⟩ | refine Or.inr ⟨_, rfl, ?_⟩ | refine Or.inl ⟨_, _, rfl, rfl, ?_⟩ | refine ⟨_, _, rfl, ?_⟩ | refine ⟨rfl, ?_⟩ | refine ⟨⟨_, rfl⟩, ?_⟩ | refine Or.inl ⟨_, _, _, rfl, rfl, rfl, ?_⟩ | refine ⟨_, _, _, rfl, rfl, ?_⟩)
      refine ⟨_, oth (msOf r) x, rfl, hgA.ond, fun y hy => rep_mem hy, by omega, ?_⟩
      rw [hMA]
      refine Or.inl ⟨_, _, rfl, rfl, mulW 2 _ rfl rfl (by decide +kernel) hMl, ?_⟩
      refine hN _ ?_
      exact congrArg (fun z => [some (false, .rd (ns.map T.int)), some (false, .int (0 + (k : Int))), some (true, tinT a3 b t3), some (false, strsT (msOf r)), some (false, .str x), some (false, .int (laps : Nat)), some (false, strsT (oth (msOf r) x)), some (false, listsT (msOf r) (LL x laps)), some (false, strsT (List.replicate laps (oth (msOf r) x)).flatten), some (false, .int z), o10, o11, o12, o13, o14, none]) e2M
    rintro e rfl
    refine seqJ (fun e => e = [some (false, .rd (ns.map T.int)), some (false, .int (0 + (k : Int))), some (true, tinT a3 b t3), some (false, strsT (msOf r)), some (false, .str x), some (false, .int (laps : Nat)), some (false, strsT (oth (msOf r) x)), some (false, listsT (msOf r) (LL x laps)), some (false, strsT (List.replicate laps (oth (msOf r) x)).flatten), some (false, .int (frmT (msOf r) x x (c0 x laps) : Nat)), o10, o11, o12, o13, o14, none]) ?_ ?_
    rotate_left
    · intro N hN
      repeat (first | refine ⟨_, rfl, rfl, List.nodup_nil, ?_⟩ | refine ⟨_, rfl, Nat.le_of_ble_eq_true rfl, ?_⟩ | refine ⟨_, rfl, ?_⟩ | refine ⟨_, _, rfl, rfl, ?_⟩ | refine ⟨_, _, _, rfl, rfl, by decide +kernel, ?_⟩ | refine Or.inl ⟨_, rfl, ?_⟩ | refine Or.inr ⟨_, rfl, ?_⟩ | refine Or.inl ⟨_, _, rfl, rfl, ?_⟩ | refine ⟨_, _, rfl, ?_⟩ | refine ⟨rfl, ?_⟩ | refine ⟨⟨_, rfl⟩, ?_⟩ | refine Or.inl ⟨_, _, _, rfl, rfl, rfl, ?_⟩ | refine ⟨_, _, _, rfl, rfl, ?_⟩)
      refine ⟨_, _, _, _, rfl, hgA, ?_⟩
      repeat (first | refine ⟨_, rfl, rfl, List.nodup_nil, ?_⟩ | refine ⟨_, rfl, Nat.le_of_ble_eq_true rfl, ?_⟩ | refine ⟨_, rfl, ?_⟩ | refine ⟨_, _, rfl, rfl, ?_⟩ | refine ⟨_, _, _, rfl, rfl, by decide +kernel, ?_⟩ | refine Or.inl ⟨_, rfl, ?_⟩ | refine Or.inr ⟨_, rfl, ?_⟩ | refine Or.inl ⟨_, _, rfl, rfl, ?_⟩ | refine ⟨_, _, rfl, ?_⟩ | refine ⟨rfl, ?_⟩ | refine ⟨⟨_, rfl⟩, ?_⟩ | refine Or.inl ⟨_, _, _, rfl, rfl, rfl, ?_⟩ | refine ⟨_, _, _, rfl, rfl, ?_⟩)
      refine iteFq (by simp [PyData.eqv]) ?_
      exact hN _ rfl
    rintro e rfl
    refine seqJ (fun e => e = [some (false, .rd (ns.map T.int)), some (false, .int (0 + (k : Int))), some (true, tinT a3 b t3), some (false, strsT (msOf r)), some (false, .str x), some (false, .int (laps : Nat)), some (false, strsT (oth (msOf r) x)), some (false, listsT (msOf r) (LL x laps)), some (false, strsT (List.replicate laps (oth (msOf r) x)).flatten), some (false, .int (frmT (msOf r) x x (c0 x laps) : Nat)), o10, o11, o12, o13, o14, none]) ?_ ?_
    rotate_left
    · intro N hN
      repeat (first | refine ⟨_, rfl, rfl, List.nodup_nil, ?_⟩ | refine ⟨_, rfl, Nat.le_of_ble_eq_true rfl, ?_⟩ | refine ⟨_, rfl, ?_⟩ | refine ⟨_, _, rfl, rfl, ?_⟩ | refine ⟨_, _, _, rfl, rfl, by decide +kernel, ?_⟩ | refine Or.inl ⟨_, rfl, ?_⟩ | refine Or.inr ⟨_, rfl, ?_⟩ | refine Or.inl ⟨_, _, rfl, rfl, ?_⟩ | refine ⟨_, _, rfl, ?_⟩ | refine ⟨rfl, ?_⟩ | refine ⟨⟨_, rfl⟩, ?_⟩ | refine Or.inl ⟨_, _, _, rfl, rfl, rfl, ?_⟩ | refine ⟨_, _, _, rfl, rfl, ?_⟩)
      refine ⟨_, _, _, rfl, hgA, fun fl => ?_⟩
      repeat (first | refine ⟨_, rfl, rfl, List.nodup_nil, ?_⟩ | refine ⟨_, rfl, Nat.le_of_ble_eq_true rfl, ?_⟩ | refine ⟨_, rfl, ?_⟩ | refine ⟨_, _, rfl, rfl, ?_⟩ | refine ⟨_, _, _, rfl, rfl, by decide +kernel, ?_⟩ | refine Or.inl ⟨_, rfl, ?_⟩ | refine Or.inr ⟨_, rfl, ?_⟩ | refine Or.inl ⟨_, _, rfl, rfl, ?_⟩ | refine ⟨_, _, rfl, ?_⟩ | refine ⟨rfl, ?_⟩ | refine ⟨⟨_, rfl⟩, ?_⟩ | refine Or.inl ⟨_, _, _, rfl, rfl, rfl, ?_⟩ | refine ⟨_, _, _, rfl, rfl, ?_⟩)
      refine ⟨_, teq_strs (fun y hy => (hgA.good y hy).ok) (fun y hy => (hgA.good y hy).ok), ?_⟩
      repeat (first | refine ⟨_, rfl, rfl, List.nodup_nil, ?_⟩ | refine ⟨_, rfl, Nat.le_of_ble_eq_true rfl, ?_⟩ | refine ⟨_, rfl, ?_⟩ | refine ⟨_, _, rfl, rfl, ?_⟩ | refine ⟨_, _, _, rfl, rfl, by decide +kernel, ?_⟩ | refine Or.inl ⟨_, rfl, ?_⟩ | refine Or.inr ⟨_, rfl, ?_⟩ | refine Or.inl ⟨_, _, rfl, rfl, ?_⟩ | refine ⟨_, _, rfl, ?_⟩ | refine ⟨rfl, ?_⟩ | refine ⟨⟨_, rfl⟩, ?_⟩ | refine Or.inl ⟨_, _, _, rfl, rfl, rfl, ?_⟩ | refine ⟨_, _, _, rfl, rfl, ?_⟩)
      refine iteFq (by simp) ?_
      exact hN _ rfl
    rintro e rfl
    refine seqJ (fun e => e = [some (false, .rd (ns.map T.int)), some (false, .int (0 + (k : Int))), some (true, tinT a3 b t3), some (false, strsT (msOf r)), some (false, .str x), some (false, .int (laps : Nat)), some (false, strsT (oth (msOf r) x)), some (false, listsT (msOf r) (LL x laps)), some (false, strsT (List.replicate laps (oth (msOf r) x)).flatten), some (false, .int (frmT (msOf r) x x (c0 x laps) : Nat)), some (false, strsT (asc (oth (msOf r) x) (c0 x laps)).dropLast), o11, o12, o13, o14, none]) ?_ ?_
    rotate_left
    · intro N hN
      repeat (first | refine ⟨_, rfl, rfl, List.nodup_nil, ?_⟩ | refine ⟨_, rfl, Nat.le_of_ble_eq_true rfl, ?_⟩ | refine ⟨_, rfl, ?_⟩ | refine ⟨_, _, rfl, rfl, ?_⟩ | refine ⟨_, _, _, rfl, rfl, by decide +kernel, ?_⟩ | refine Or.inl ⟨_, rfl, ?_⟩ | refine Or.inr ⟨_, rfl, ?_⟩ | refine Or.inl ⟨_, _, rfl, rfl, ?_⟩ | refine ⟨_, _, rfl, ?_⟩ | refine ⟨rfl, ?_⟩ | refine ⟨⟨_, rfl⟩, ?_⟩ | refine Or.inl ⟨_, _, _, rfl, rfl, rfl, ?_⟩ | refine ⟨_, _, _, rfl, rfl, ?_⟩)
      refine ⟨_, x, x, laps, 0, rfl, hgA, by rw [hwA]; have := M_pos (oth (msOf r) x) (c0 x laps); omega, fun fl => ?_⟩
      refine ⟨_, rfl, _, _, _, _, rfl, rfl, by rw [dget_map, if_pos hx], ?_⟩
      refine hN _ ?_
      exact congrArg (fun z => [some (false, .rd (ns.map T.int)), some (false, .int (0 + (k : Int))), some (true, tinT a3 b t3), some (false, strsT (msOf r)), some (false, .str x), some (false, .int (laps : Nat)), some (false, strsT (oth (msOf r) x)), some (false, listsT (msOf r) (LL x laps)), some (false, strsT (List.replicate laps (oth (msOf r) x)).flatten), some (false, .int (frmT (msOf r) x x (c0 x laps) : Nat)), some (false, strsT z), o11, o12, o13, o14, none]) ((if_pos rfl).trans (all_zero hgA.ond htA.1))
    rintro e rfl
    refine seqJ (fun e => e = [some (false, .rd (ns.map T.int)), some (false, .int (0 + (k : Int))), some (true, tinT a3 b t3), some (false, strsT (msOf r)), some (false, .str x), some (false, .int (laps : Nat)), some (false, strsT (oth (msOf r) x)), some (false, listsT (msOf r) (LL x laps)), some (false, strsT (List.replicate laps (oth (msOf r) x)).flatten), some (false, .int (frmT (msOf r) x x (c0 x laps) : Nat)), some (false, strsT (asc (oth (msOf r) x) (c0 x laps)).dropLast), some (false, strsT (asc (oth (msOf r) x) (c0 x laps)).reverse), o12, o13, o14, none]) ?_ ?_
    rotate_left
    · intro N hN
      repeat (first | refine ⟨_, rfl, rfl, List.nodup_nil, ?_⟩ | refine ⟨_, rfl, Nat.le_of_ble_eq_true rfl, ?_⟩ | refine ⟨_, rfl, ?_⟩ | refine ⟨_, _, rfl, rfl, ?_⟩ | refine ⟨_, _, _, rfl, rfl, by decide +kernel, ?_⟩ | refine Or.inl ⟨_, rfl, ?_⟩ | refine Or.inr ⟨_, rfl, ?_⟩ | refine Or.inl ⟨_, _, rfl, rfl, ?_⟩ | refine ⟨_, _, rfl, ?_⟩ | refine ⟨rfl, ?_⟩ | refine ⟨⟨_, rfl⟩, ?_⟩ | refine Or.inl ⟨_, _, _, rfl, rfl, rfl, ?_⟩ | refine ⟨_, _, _, rfl, rfl, ?_⟩)
      have hfp : 0 < frmT (msOf r) x x (c0 x laps) := by rw [hwA]; have := M_pos (oth (msOf r) x) (c0 x laps); omega
      refine ⟨_, x, x, laps, frmT (msOf r) x x (c0 x laps) - 1, ?_, hgA, by omega, fun fl => ?_⟩
      · exact congrArg (fun z => [strsT (msOf r), T.str x, listsT (msOf r) (LL x laps), T.str x, T.int z]) (show (frmT (msOf r) x x (c0 x laps) : Int) - 1 = ((frmT (msOf r) x x (c0 x laps) - 1 : Nat) : Int) by omega)
      refine ⟨_, rfl, _, _, _, _, rfl, rfl, by rw [dget_map, if_pos hx], ?_⟩
      refine hN _ ?_
      exact congrArg (fun z => [some (false, .rd (ns.map T.int)), some (false, .int (0 + (k : Int))), some (true, tinT a3 b t3), some (false, strsT (msOf r)), some (false, .str x), some (false, .int (laps : Nat)), some (false, strsT (oth (msOf r) x)), some (false, listsT (msOf r) (LL x laps)), some (false, strsT (List.replicate laps (oth (msOf r) x)).flatten), some (false, .int (frmT (msOf r) x x (c0 x laps) : Nat)), some (false, strsT (asc (oth (msOf r) x) (c0 x laps)).dropLast), some (false, strsT z), o12, o13, o14, none]) ((if_pos rfl).trans (all_last hgA.ond htA.1))
    rintro e rfl
    have hopw : (oth (msOf r) x).Pairwise leS := List.Pairwise.sublist List.filter_sublist (msOf_pw r)
    have hok : ∀ y ∈ asc (oth (msOf r) x) (c0 x laps), PyData.strOk y = true := fun y hy => (hgA.good y (List.mem_filter.mp (asc_mem hy)).1).ok
    have hsA : ∀ ys : List Str, ys.Perm (List.replicate laps (oth (msOf r) x)).flatten → PyProof.Rows.sortedS ys = true → ys = asc (oth (msOf r) x) (c0 x laps) := fun ys h1 h2 => sorted_asc hgA.ond hopw (fun o => congrFun hcA o) h1 h2
    refine seqJ (fun e => e = [some (false, .rd (ns.map T.int)), some (false, .int (0 + (k : Int))), some (true, tinT a3 b t3), some (false, strsT (msOf r)), some (false, .str x), some (false, .int (laps : Nat)), some (false, strsT (oth (msOf r) x)), some (false, listsT (msOf r) (LL x laps)), some (false, strsT (List.replicate laps (oth (msOf r) x)).flatten), some (false, .int (frmT (msOf r) x x (c0 x laps) : Nat)), some (false, strsT (asc (oth (msOf r) x) (c0 x laps)).dropLast), some (false, strsT (asc (oth (msOf r) x) (c0 x laps)).reverse), o12, o13, o14, none]) ?_ ?_
    rotate_left
    · intro N hN
      repeat (first | refine ⟨_, rfl, rfl, List.nodup_nil, ?_⟩ | refine ⟨_, rfl, Nat.le_of_ble_eq_true rfl, ?_⟩ | refine ⟨_, rfl, ?_⟩ | refine ⟨_, _, rfl, rfl, ?_⟩ | refine ⟨_, _, _, rfl, rfl, by decide +kernel, ?_⟩ | refine Or.inl ⟨_, rfl, ?_⟩ | refine Or.inr ⟨_, rfl, ?_⟩ | refine Or.inl ⟨_, _, rfl, rfl, ?_⟩ | refine ⟨_, _, rfl, ?_⟩ | refine ⟨rfl, ?_⟩ | refine ⟨⟨_, rfl⟩, ?_⟩ | refine Or.inl ⟨_, _, _, rfl, rfl, rfl, ?_⟩ | refine ⟨_, _, _, rfl, rfl, ?_⟩)
      refine ⟨_, Or.inl rfl, by omega, fun ys hp hs => ?_⟩
      rw [hsA ys hp hs]
      repeat (first | refine ⟨_, rfl, rfl, List.nodup_nil, ?_⟩ | refine ⟨_, rfl, Nat.le_of_ble_eq_true rfl, ?_⟩ | refine ⟨_, rfl, ?_⟩ | refine ⟨_, _, rfl, rfl, ?_⟩ | refine ⟨_, _, _, rfl, rfl, by decide +kernel, ?_⟩ | refine Or.inl ⟨_, rfl, ?_⟩ | refine Or.inr ⟨_, rfl, ?_⟩ | refine Or.inl ⟨_, _, rfl, rfl, ?_⟩ | refine ⟨_, _, rfl, ?_⟩ | refine ⟨rfl, ?_⟩ | refine ⟨⟨_, rfl⟩, ?_⟩ | refine Or.inl ⟨_, _, _, rfl, rfl, rfl, ?_⟩ | refine ⟨_, _, _, rfl, rfl, ?_⟩)
      rw [show mkL (cutT ((asc (oth (msOf r) x) (c0 x laps)).map T.str) none (some (-1))) = _ from cut_last _]
      refine ⟨_, teq_strs (fun y hy => hok y (List.dropLast_subset _ hy)) (fun y hy => hok y (List.dropLast_subset _ hy)), ?_⟩
      repeat (first | refine ⟨_, rfl, rfl, List.nodup_nil, ?_⟩ | refine ⟨_, rfl, Nat.le_of_ble_eq_true rfl, ?_⟩ | refine ⟨_, rfl, ?_⟩ | refine ⟨_, _, rfl, rfl, ?_⟩ | refine ⟨_, _, _, rfl, rfl, by decide +kernel, ?_⟩ | refine Or.inl ⟨_, rfl, ?_⟩ | refine Or.inr ⟨_, rfl, ?_⟩ | refine Or.inl ⟨_, _, rfl, rfl, ?_⟩ | refine ⟨_, _, rfl, ?_⟩ | refine ⟨rfl, ?_⟩ | refine ⟨⟨_, rfl⟩, ?_⟩ | refine Or.inl ⟨_, _, _, rfl, rfl, rfl, ?_⟩ | refine ⟨_, _, _, rfl, rfl, ?_⟩)
      refine iteFq (by simp) ?_
      repeat (first | refine ⟨_, rfl, rfl, List.nodup_nil, ?_⟩ | refine ⟨_, rfl, Nat.le_of_ble_eq_true rfl, ?_⟩ | refine ⟨_, rfl, ?_⟩ | refine ⟨_, _, rfl, rfl, ?_⟩ | refine ⟨_, _, _, rfl, rfl, by decide +kernel, ?_⟩ | refine Or.inl ⟨_, rfl, ?_⟩ | refine Or.inr ⟨_, rfl, ?_⟩ | refine Or.inl ⟨_, _, rfl, rfl, ?_⟩ | refine ⟨_, _, rfl, ?_⟩ | refine ⟨rfl, ?_⟩ | refine ⟨⟨_, rfl⟩, ?_⟩ | refine Or.inl ⟨_, _, _, rfl, rfl, rfl, ?_⟩ | refine ⟨_, _, _, rfl, rfl, ?_⟩)
      refine ⟨_, Or.inl rfl, by omega, fun ys hp hs => ?_⟩
      rw [hsA ys hp hs]
      repeat (first | refine ⟨_, rfl, rfl, List.nodup_nil, ?_⟩ | refine ⟨_, rfl, Nat.le_of_ble_eq_true rfl, ?_⟩ | refine ⟨_, rfl, ?_⟩ | refine ⟨_, _, rfl, rfl, ?_⟩ | refine ⟨_, _, _, rfl, rfl, by decide +kernel, ?_⟩ | refine Or.inl ⟨_, rfl, ?_⟩ | refine Or.inr ⟨_, rfl, ?_⟩ | refine Or.inl ⟨_, _, rfl, rfl, ?_⟩ | refine ⟨_, _, rfl, ?_⟩ | refine ⟨rfl, ?_⟩ | refine ⟨⟨_, rfl⟩, ?_⟩ | refine Or.inl ⟨_, _, _, rfl, rfl, rfl, ?_⟩ | refine ⟨_, _, _, rfl, rfl, ?_⟩)
      rw [show mkL ((asc (oth (msOf r) x) (c0 x laps)).map T.str).reverse = _ from rev_strs _]
      refine ⟨_, teq_strs (fun y hy => hok y (List.mem_reverse.mp hy)) (fun y hy => hok y (List.mem_reverse.mp hy)), ?_⟩
      repeat (first | refine ⟨_, rfl, rfl, List.nodup_nil, ?_⟩ | refine ⟨_, rfl, Nat.le_of_ble_eq_true rfl, ?_⟩ | refine ⟨_, rfl, ?_⟩ | refine ⟨_, _, rfl, rfl, ?_⟩ | refine ⟨_, _, _, rfl, rfl, by decide +kernel, ?_⟩ | refine Or.inl ⟨_, rfl, ?_⟩ | refine Or.inr ⟨_, rfl, ?_⟩ | refine Or.inl ⟨_, _, rfl, rfl, ?_⟩ | refine ⟨_, _, rfl, ?_⟩ | refine ⟨rfl, ?_⟩ | refine ⟨⟨_, rfl⟩, ?_⟩ | refine Or.inl ⟨_, _, _, rfl, rfl, rfl, ?_⟩ | refine ⟨_, _, _, rfl, rfl, ?_⟩)
      refine iteFq (by simp) ?_
      exact hN _ rfl
    rintro e rfl
    refine seqJ (fun e => ∃ (a4 t4 : Int) (f : Str), e = [some (false, .rd (ns.map T.int)), some (false, .int (0 + (k : Int))), some (true, tinT a4 b t4), some (false, strsT (msOf r)), some (false, .str x), some (false, .int (laps : Nat)), some (false, strsT (oth (msOf r) x)), some (false, listsT (msOf r) (LL x laps)), some (false, strsT (List.replicate laps (oth (msOf r) x)).flatten), some (false, .int (frmT (msOf r) x x (c0 x laps) : Nat)), some (false, strsT (asc (oth (msOf r) x) (c0 x laps)).dropLast), some (false, strsT (asc (oth (msOf r) x) (c0 x laps)).reverse), some (false, .str f), o13, o14, none] ∧ f ∈ oth (msOf r) x) ?_ ?_
    rotate_left
    · intro N hN
      repeat (first | refine ⟨_, rfl, rfl, List.nodup_nil, ?_⟩ | refine ⟨_, rfl, Nat.le_of_ble_eq_true rfl, ?_⟩ | refine ⟨_, rfl, ?_⟩ | refine ⟨_, _, rfl, rfl, ?_⟩ | refine ⟨_, _, _, rfl, rfl, by decide +kernel, ?_⟩ | refine Or.inl ⟨_, rfl, ?_⟩ | refine Or.inr ⟨_, rfl, ?_⟩ | refine Or.inl ⟨_, _, rfl, rfl, ?_⟩ | refine ⟨_, _, rfl, ?_⟩ | refine ⟨rfl, ?_⟩ | refine ⟨⟨_, rfl⟩, ?_⟩ | refine Or.inl ⟨_, _, _, rfl, rfl, rfl, ?_⟩ | refine ⟨_, _, _, rfl, rfl, ?_⟩)
      refine ⟨show ([2] : List Nat).Nodup by decide, a3, b, t3, _, rfl, ha3, hb1, hb2, ht3, by omega, by simp; omega, by simp; omega, fun r4 a4 t4 hr4 ha4 ht4 ht4' => ?_⟩
      rw [List.length_map] at hr4
      refine Or.inl ⟨_, _, .str (oth (msOf r) x)[r4], rfl, rfl, atI_nat (by rw [List.getElem?_map, List.getElem?_eq_getElem hr4]; rfl), ?_⟩
      exact hN _ ⟨a4, t4, (oth (msOf r) x)[r4], rfl, List.getElem_mem _⟩
    rintro e ⟨a4, t4, f, rfl, hfo⟩
    have hfm : f ∈ msOf r := (List.mem_filter.mp hfo).1
    have hfx : f ≠ x := by simpa using (List.mem_filter.mp hfo).2
    have hgB := msOf_law hr hfm hx hl1 hl5
    have htB := hgB.tot
    have hcB : ∀ o, ((List.replicate laps (oth (msOf r) x)).flatten ++ [f]).count o = if o ∈ oth (msOf r) x then c0 f laps o else 0 := by
      intro o
      rw [List.count_append, rep_count, count_nd hgA.ond]
      by_cases h : o ∈ oth (msOf r) x
      · by_cases e : o = f
        · subst e; simp [h, c0]
        · have e' : ¬ f = o := fun z => e z.symm
          simp [h, c0, e, e']
      · have e' : ¬ f = o := fun z => h (z ▸ hfo)
        simp [h, e']
    refine seqJ (fun e => e = [some (false, .rd (ns.map T.int)), some (false, .int (0 + (k : Int))), some (true, tinT a4 b t4), some (false, strsT (msOf r)), some (false, .str x), some (false, .int (laps : Nat)), some (false, strsT (oth (msOf r) x)), some (false, listsT (msOf r) (LL x laps)), some (false, strsT (asc (oth (msOf r) x) (c0 f laps))), some (false, .int (frmT (msOf r) x x (c0 x laps) : Nat)), some (false, strsT (asc (oth (msOf r) x) (c0 x laps)).dropLast), some (false, strsT (asc (oth (msOf r) x) (c0 x laps)).reverse), some (false, .str f), o13, o14, none]) ?_ ?_
    rotate_left
    · intro N hN
      repeat (first | refine ⟨_, rfl, rfl, List.nodup_nil, ?_⟩ | refine ⟨_, rfl, Nat.le_of_ble_eq_true rfl, ?_⟩ | refine ⟨_, rfl, ?_⟩ | refine ⟨_, _, rfl, rfl, ?_⟩ | refine ⟨_, _, _, rfl, rfl, by decide +kernel, ?_⟩ | refine Or.inl ⟨_, rfl, ?_⟩ | refine Or.inr ⟨_, rfl, ?_⟩ | refine Or.inl ⟨_, _, rfl, rfl, ?_⟩ | refine ⟨_, _, rfl, ?_⟩ | refine ⟨rfl, ?_⟩ | refine ⟨⟨_, rfl⟩, ?_⟩ | refine Or.inl ⟨_, _, _, rfl, rfl, rfl, ?_⟩ | refine ⟨_, _, _, rfl, rfl, ?_⟩)
      refine roMulA_strs (by omega) (by omega) ?_
      repeat (first | refine ⟨_, rfl, rfl, List.nodup_nil, ?_⟩ | refine ⟨_, rfl, Nat.le_of_ble_eq_true rfl, ?_⟩ | refine ⟨_, rfl, ?_⟩ | refine ⟨_, _, rfl, rfl, ?_⟩ | refine ⟨_, _, _, rfl, rfl, by decide +kernel, ?_⟩ | refine Or.inl ⟨_, rfl, ?_⟩ | refine Or.inr ⟨_, rfl, ?_⟩ | refine Or.inl ⟨_, _, rfl, rfl, ?_⟩ | refine ⟨_, _, rfl, ?_⟩ | refine ⟨rfl, ?_⟩ | refine ⟨⟨_, rfl⟩, ?_⟩ | refine Or.inl ⟨_, _, _, rfl, rfl, rfl, ?_⟩ | refine ⟨_, _, _, rfl, rfl, ?_⟩)
      refine roAdd_strs (ys := [f]) (by simp only [List.length_singleton]; omega) ?_
      repeat (first | refine ⟨_, rfl, rfl, List.nodup_nil, ?_⟩ | refine ⟨_, rfl, Nat.le_of_ble_eq_true rfl, ?_⟩ | refine ⟨_, rfl, ?_⟩ | refine ⟨_, _, rfl, rfl, ?_⟩ | refine ⟨_, _, _, rfl, rfl, by decide +kernel, ?_⟩ | refine Or.inl ⟨_, rfl, ?_⟩ | refine Or.inr ⟨_, rfl, ?_⟩ | refine Or.inl ⟨_, _, rfl, rfl, ?_⟩ | refine ⟨_, _, rfl, ?_⟩ | refine ⟨rfl, ?_⟩ | refine ⟨⟨_, rfl⟩, ?_⟩ | refine Or.inl ⟨_, _, _, rfl, rfl, rfl, ?_⟩ | refine ⟨_, _, _, rfl, rfl, ?_⟩)
      refine ⟨_, Or.inl rfl, by simp only [List.length_append, List.length_singleton]; omega, fun ys hp hs => ?_⟩
      rw [sorted_asc hgA.ond hopw hcB hp hs]
      exact hN _ rfl
    rintro e rfl
    have hc0f : 0 < c0 f laps f := by unfold c0; omega
    have her := erase_asc hgA.ond hopw hfo hc0f
    have hdB := tot_dec hgA.ond hfo hc0f
    have hfB : f ∈ (asc (oth (msOf r) x) (c0 f laps)) := by
      refine List.count_pos_iff.mp ?_
      rw [asc_count hgA.ond, if_pos hfo]
      exact hc0f
    have hlB := asc_len (oth (msOf r) x) (c0 f laps)
    have hlC := asc_len (oth (msOf r) x) (dec (c0 f laps) f)
    have hokC : ∀ y ∈ (asc (oth (msOf r) x) (dec (c0 f laps) f)), PyData.strOk y = true := fun y hy => (hgA.good y (List.mem_filter.mp (asc_mem hy)).1).ok
    have hfok := (hgA.good f hfm).ok
    refine seqJ (fun e => e = [some (false, .rd (ns.map T.int)), some (false, .int (0 + (k : Int))), some (true, tinT a4 b t4), some (false, strsT (msOf r)), some (false, .str x), some (false, .int (laps : Nat)), some (false, strsT (oth (msOf r) x)), some (false, listsT (msOf r) (LL x laps)), some (false, strsT (asc (oth (msOf r) x) (c0 f laps))), some (false, .int (frmT (msOf r) x x (c0 x laps) : Nat)), some (false, strsT (asc (oth (msOf r) x) (c0 x laps)).dropLast), some (false, strsT (asc (oth (msOf r) x) (c0 x laps)).reverse), some (false, .str f), some (true, strsT (asc (oth (msOf r) x) (c0 f laps))), o14, none]) ?_ ?_
    rotate_left
    · intro N hN
      repeat (first | refine ⟨_, rfl, rfl, List.nodup_nil, ?_⟩ | refine ⟨_, rfl, Nat.le_of_ble_eq_true rfl, ?_⟩ | refine ⟨_, rfl, ?_⟩ | refine ⟨_, _, rfl, rfl, ?_⟩ | refine ⟨_, _, _, rfl, rfl, by decide +kernel, ?_⟩ | refine Or.inl ⟨_, rfl, ?_⟩ | refine Or.inr ⟨_, rfl, ?_⟩ | refine Or.inl ⟨_, _, rfl, rfl, ?_⟩ | refine ⟨_, _, rfl, ?_⟩ | refine ⟨rfl, ?_⟩ | refine ⟨⟨_, rfl⟩, ?_⟩ | refine Or.inl ⟨_, _, _, rfl, rfl, rfl, ?_⟩ | refine ⟨_, _, _, rfl, rfl, ?_⟩)
      refine Or.inl ⟨_, Or.inl rfl, ?_⟩
      rw [mkL_strs]
      exact hN _ rfl
    rintro e rfl
    refine seqJ (fun e => e = [some (false, .rd (ns.map T.int)), some (false, .int (0 + (k : Int))), some (true, tinT a4 b t4), some (false, strsT (msOf r)), some (false, .str x), some (false, .int (laps : Nat)), some (false, strsT (oth (msOf r) x)), some (false, listsT (msOf r) (LL x laps)), some (false, strsT (asc (oth (msOf r) x) (c0 f laps))), some (false, .int (frmT (msOf r) x x (c0 x laps) : Nat)), some (false, strsT (asc (oth (msOf r) x) (c0 x laps)).dropLast), some (false, strsT (asc (oth (msOf r) x) (c0 x laps)).reverse), some (false, .str f), some (true, strsT (asc (oth (msOf r) x) (dec (c0 f laps) f))), o14, none]) ?_ ?_
    rotate_left
    · intro N hN
      repeat (first | refine ⟨_, rfl, rfl, List.nodup_nil, ?_⟩ | refine ⟨_, rfl, Nat.le_of_ble_eq_true rfl, ?_⟩ | refine ⟨_, rfl, ?_⟩ | refine ⟨_, _, rfl, rfl, ?_⟩ | refine ⟨_, _, _, rfl, rfl, by decide +kernel, ?_⟩ | refine Or.inl ⟨_, rfl, ?_⟩ | refine Or.inr ⟨_, rfl, ?_⟩ | refine Or.inl ⟨_, _, rfl, rfl, ?_⟩ | refine ⟨_, _, rfl, ?_⟩ | refine ⟨rfl, ?_⟩ | refine ⟨⟨_, rfl⟩, ?_⟩ | refine Or.inl ⟨_, _, _, rfl, rfl, rfl, ?_⟩ | refine ⟨_, _, _, rfl, rfl, ?_⟩)
      refine ⟨hfB, ?_⟩
      refine hN _ ?_
      exact congrArg (fun z => [some (false, .rd (ns.map T.int)), some (false, .int (0 + (k : Int))), some (true, tinT a4 b t4), some (false, strsT (msOf r)), some (false, .str x), some (false, .int (laps : Nat)), some (false, strsT (oth (msOf r) x)), some (false, listsT (msOf r) (LL x laps)), some (false, strsT (asc (oth (msOf r) x) (c0 f laps))), some (false, .int (frmT (msOf r) x x (c0 x laps) : Nat)), some (false, strsT (asc (oth (msOf r) x) (c0 x laps)).dropLast), some (false, strsT (asc (oth (msOf r) x) (c0 x laps)).reverse), some (false, .str f), some (true, strsT z), o14, none]) her
    rintro e rfl
    have hcC : cnt (asc (oth (msOf r) x) (dec (c0 f laps) f)) = fun o => if o ∈ oth (msOf r) x then dec (c0 f laps) f o else 0 := by
      funext o
      exact asc_count hgA.ond _ o
    have hMC : M (oth (msOf r) x) (cnt (asc (oth (msOf r) x) (dec (c0 f laps) f))) = M (oth (msOf r) x) (dec (c0 f laps) f) := by
      rw [hcC]
      unfold M
      rw [List.map_congr_left fun o ho => if_pos ho]
    have hwB := one_whole (ms := msOf r) (c := c0 f laps) hgA.ond hfo hfx hc0f
    have hfrC : frm (oth (msOf r) x) (dec (c0 f laps) f) = M (oth (msOf r) x) (dec (c0 f laps) f) * 2 := by
      unfold frm
      rw [if_neg (by omega)]
    have hMlC := log_fac (n := 56) (by decide) (Nat.le_trans (M_le (oth (msOf r) x) (dec (c0 f laps) f)) (fac_mono (show tot (oth (msOf r) x) (dec (c0 f laps) f) ≤ 56 by omega)))
    have e2C : (2 : Int) * (M (oth (msOf r) x) (dec (c0 f laps) f) : Int) = (frmT (msOf r) f x (c0 f laps) : Int) := by rw [hwB, hfrC]; simp; omega
    refine seqJ (fun e => e = [some (false, .rd (ns.map T.int)), some (false, .int (0 + (k : Int))), some (true, tinT a4 b t4), some (false, strsT (msOf r)), some (false, .str x), some (false, .int (laps : Nat)), some (false, strsT (oth (msOf r) x)), some (false, listsT (msOf r) (LL x laps)), some (false, strsT (asc (oth (msOf r) x) (c0 f laps))), some (false, .int (frmT (msOf r) x x (c0 x laps) : Nat)), some (false, strsT (asc (oth (msOf r) x) (c0 x laps)).dropLast), some (false, strsT (asc (oth (msOf r) x) (c0 x laps)).reverse), some (false, .str f), some (true, strsT (asc (oth (msOf r) x) (dec (c0 f laps) f))), some (false, .int (frmT (msOf r) f x (c0 f laps) : Nat)), none]) ?_ ?_
    rotate_left
    · intro N hN
      repeat (first | refine ⟨_, rfl, rfl, List.nodup_nil, ?_⟩ | refine ⟨_, rfl, Nat.le_of_ble_eq_true rfl, ?_⟩ | refine ⟨_, rfl, ?_⟩ | refine ⟨_, _, rfl, rfl, ?_⟩ | refine ⟨_, _, _, rfl, rfl, by decide +kernel, ?_⟩ | refine Or.inl ⟨_, rfl, ?_⟩ | refine Or.inr ⟨_, rfl, ?_⟩ | refine Or.inl ⟨_, _, rfl, rfl, ?_⟩ | refine ⟨_, _, rfl, ?_⟩ | refine ⟨rfl, ?_⟩ | refine ⟨⟨_, rfl⟩, ?_⟩ | refine Or.inl ⟨_, _, _, rfl, rfl, rfl, ?_⟩ | refine ⟨_, _, _, rfl, rfl, ?_⟩)
      refine ⟨_, oth (msOf r) x, rfl, hgA.ond, fun y hy => asc_mem hy, by omega, ?_⟩
      rw [hMC]
      refine Or.inl ⟨_, _, rfl, rfl, mulW 2 _ rfl rfl (by decide +kernel) hMlC, ?_⟩
      repeat (first | refine ⟨_, rfl, rfl, List.nodup_nil, ?_⟩ | refine ⟨_, rfl, Nat.le_of_ble_eq_true rfl, ?_⟩ | refine ⟨_, rfl, ?_⟩ | refine ⟨_, _, rfl, rfl, ?_⟩ | refine ⟨_, _, _, rfl, rfl, by decide +kernel, ?_⟩ | refine Or.inl ⟨_, rfl, ?_⟩ | refine Or.inr ⟨_, rfl, ?_⟩ | refine Or.inl ⟨_, _, rfl, rfl, ?_⟩ | refine ⟨_, _, rfl, ?_⟩ | refine ⟨rfl, ?_⟩ | refine ⟨⟨_, rfl⟩, ?_⟩ | refine Or.inl ⟨_, _, _, rfl, rfl, rfl, ?_⟩ | refine ⟨_, _, _, rfl, rfl, ?_⟩)
      refine hN _ ?_
      exact congrArg (fun z => [some (false, .rd (ns.map T.int)), some (false, .int (0 + (k : Int))), some (true, tinT a4 b t4), some (false, strsT (msOf r)), some (false, .str x), some (false, .int (laps : Nat)), some (false, strsT (oth (msOf r) x)), some (false, listsT (msOf r) (LL x laps)), some (false, strsT (asc (oth (msOf r) x) (c0 f laps))), some (false, .int (frmT (msOf r) x x (c0 x laps) : Nat)), some (false, strsT (asc (oth (msOf r) x) (c0 x laps)).dropLast), some (false, strsT (asc (oth (msOf r) x) (c0 x laps)).reverse), some (false, .str f), some (true, strsT (asc (oth (msOf r) x) (dec (c0 f laps) f))), some (false, .int z), none]) e2C
    rintro e rfl
    refine seqJ (fun e => e = [some (false, .rd (ns.map T.int)), some (false, .int (0 + (k : Int))), some (true, tinT a4 b t4), some (false, strsT (msOf r)), some (false, .str x), some (false, .int (laps : Nat)), some (false, strsT (oth (msOf r) x)), some (false, listsT (msOf r) (LL x laps)), some (false, strsT (asc (oth (msOf r) x) (c0 f laps))), some (false, .int (frmT (msOf r) x x (c0 x laps) : Nat)), some (false, strsT (asc (oth (msOf r) x) (c0 x laps)).dropLast), some (false, strsT (asc (oth (msOf r) x) (c0 x laps)).reverse), some (false, .str f), some (true, strsT (asc (oth (msOf r) x) (dec (c0 f laps) f))), some (false, .int (frmT (msOf r) f x (c0 f laps) : Nat)), none]) ?_ ?_
    rotate_left
    · intro N hN
      repeat (first | refine ⟨_, rfl, rfl, List.nodup_nil, ?_⟩ | refine ⟨_, rfl, Nat.le_of_ble_eq_true rfl, ?_⟩ | refine ⟨_, rfl, ?_⟩ | refine ⟨_, _, rfl, rfl, ?_⟩ | refine ⟨_, _, _, rfl, rfl, by decide +kernel, ?_⟩ | refine Or.inl ⟨_, rfl, ?_⟩ | refine Or.inr ⟨_, rfl, ?_⟩ | refine Or.inl ⟨_, _, rfl, rfl, ?_⟩ | refine ⟨_, _, rfl, ?_⟩ | refine ⟨rfl, ?_⟩ | refine ⟨⟨_, rfl⟩, ?_⟩ | refine Or.inl ⟨_, _, _, rfl, rfl, rfl, ?_⟩ | refine ⟨_, _, _, rfl, rfl, ?_⟩)
      refine ⟨_, _, _, _, rfl, hgB, ?_⟩
      repeat (first | refine ⟨_, rfl, rfl, List.nodup_nil, ?_⟩ | refine ⟨_, rfl, Nat.le_of_ble_eq_true rfl, ?_⟩ | refine ⟨_, rfl, ?_⟩ | refine ⟨_, _, rfl, rfl, ?_⟩ | refine ⟨_, _, _, rfl, rfl, by decide +kernel, ?_⟩ | refine Or.inl ⟨_, rfl, ?_⟩ | refine Or.inr ⟨_, rfl, ?_⟩ | refine Or.inl ⟨_, _, rfl, rfl, ?_⟩ | refine ⟨_, _, rfl, ?_⟩ | refine ⟨rfl, ?_⟩ | refine ⟨⟨_, rfl⟩, ?_⟩ | refine Or.inl ⟨_, _, _, rfl, rfl, rfl, ?_⟩ | refine ⟨_, _, _, rfl, rfl, ?_⟩)
      refine iteFq (by simp [PyData.eqv]) ?_
      exact hN _ rfl
    rintro e rfl
    have hfrp := frm_pos (oth (msOf r) x) (dec (c0 f laps) f)
    have eV0 : (if x = x then unr (msOf r) f x (tot (oth (msOf r) x) (c0 f laps) + 1) (c0 f laps) [] 0 else LL x laps x) = [f] ++ (asc (oth (msOf r) x) (dec (c0 f laps) f)).dropLast :=
      (if_pos rfl).trans ((one_step hgA.ond hfo hfx hc0f htB.1 hfrp).trans (unr_zero hgA.ond _ _ _ (by omega) (by simp)))
    have eV1 : (if x = x then unr (msOf r) f x (tot (oth (msOf r) x) (c0 f laps) + 1) (c0 f laps) [] (frmT (msOf r) f x (c0 f laps) - 1) else LL x laps x) = [f] ++ (asc (oth (msOf r) x) (dec (c0 f laps) f)).reverse := by
      rw [if_pos rfl, hwB]
      exact (one_step hgA.ond hfo hfx hc0f htB.1 (by omega)).trans (unr_last hgA.ond _ _ _ (by omega) (by simp))
    have hokD : ∀ y ∈ [f] ++ (asc (oth (msOf r) x) (dec (c0 f laps) f)).dropLast, PyData.strOk y = true := fun y hy => by
      rcases List.mem_append.mp hy with h | h
      · rw [List.mem_singleton.mp h]; exact hfok
      · exact hokC y (List.dropLast_subset _ h)
    have hokR : ∀ y ∈ [f] ++ (asc (oth (msOf r) x) (dec (c0 f laps) f)).reverse, PyData.strOk y = true := fun y hy => by
      rcases List.mem_append.mp hy with h | h
      · rw [List.mem_singleton.mp h]; exact hfok
      · exact hokC y (List.mem_reverse.mp h)
    refine seqJ (fun e => e = [some (false, .rd (ns.map T.int)), some (false, .int (0 + (k : Int))), some (true, tinT a4 b t4), some (false, strsT (msOf r)), some (false, .str x), some (false, .int (laps : Nat)), some (false, strsT (oth (msOf r) x)), some (false, listsT (msOf r) (LL x laps)), some (false, strsT (asc (oth (msOf r) x) (c0 f laps))), some (false, .int (frmT (msOf r) x x (c0 x laps) : Nat)), some (false, strsT (asc (oth (msOf r) x) (c0 x laps)).dropLast), some (false, strsT (asc (oth (msOf r) x) (c0 x laps)).reverse), some (false, .str f), some (true, strsT (asc (oth (msOf r) x) (dec (c0 f laps) f))), some (false, .int (frmT (msOf r) f x (c0 f laps) : Nat)), none]) ?_ ?_
    rotate_left
    · intro N hN
      repeat (first | refine ⟨_, rfl, rfl, List.nodup_nil, ?_⟩ | refine ⟨_, rfl, Nat.le_of_ble_eq_true rfl, ?_⟩ | refine ⟨_, rfl, ?_⟩ | refine ⟨_, _, rfl, rfl, ?_⟩ | refine ⟨_, _, _, rfl, rfl, by decide +kernel, ?_⟩ | refine Or.inl ⟨_, rfl, ?_⟩ | refine Or.inr ⟨_, rfl, ?_⟩ | refine Or.inl ⟨_, _, rfl, rfl, ?_⟩ | refine ⟨_, _, rfl, ?_⟩ | refine ⟨rfl, ?_⟩ | refine ⟨⟨_, rfl⟩, ?_⟩ | refine Or.inl ⟨_, _, _, rfl, rfl, rfl, ?_⟩ | refine ⟨_, _, _, rfl, rfl, ?_⟩)
      refine ⟨_, f, x, laps, 0, rfl, hgB, by omega, fun fl => ?_⟩
      refine ⟨_, rfl, _, _, _, _, rfl, rfl, by rw [dget_map, if_pos hx], ?_⟩
      repeat (first | refine ⟨_, rfl, rfl, List.nodup_nil, ?_⟩ | refine ⟨_, rfl, Nat.le_of_ble_eq_true rfl, ?_⟩ | refine ⟨_, rfl, ?_⟩ | refine ⟨_, _, rfl, rfl, ?_⟩ | refine ⟨_, _, _, rfl, rfl, by decide +kernel, ?_⟩ | refine Or.inl ⟨_, rfl, ?_⟩ | refine Or.inr ⟨_, rfl, ?_⟩ | refine Or.inl ⟨_, _, rfl, rfl, ?_⟩ | refine ⟨_, _, rfl, ?_⟩ | refine ⟨rfl, ?_⟩ | refine ⟨⟨_, rfl⟩, ?_⟩ | refine Or.inl ⟨_, _, _, rfl, rfl, rfl, ?_⟩ | refine ⟨_, _, _, rfl, rfl, ?_⟩)
      rw [show mkL (cutT ((asc (oth (msOf r) x) (dec (c0 f laps) f)).map T.str) none (some (-1))) = _ from cut_last _]
      refine roAdd_strs (xs := [f]) (by rw [List.length_dropLast]; simp only [List.length_singleton]; omega) ?_
      refine ⟨_, (congrArg (fun l => teq (strsT l) (strsT ([f] ++ (asc (oth (msOf r) x) (dec (c0 f laps) f)).dropLast))) eV0).trans (teq_strs hokD hokD), ?_⟩
      repeat (first | refine ⟨_, rfl, rfl, List.nodup_nil, ?_⟩ | refine ⟨_, rfl, Nat.le_of_ble_eq_true rfl, ?_⟩ | refine ⟨_, rfl, ?_⟩ | refine ⟨_, _, rfl, rfl, ?_⟩ | refine ⟨_, _, _, rfl, rfl, by decide +kernel, ?_⟩ | refine Or.inl ⟨_, rfl, ?_⟩ | refine Or.inr ⟨_, rfl, ?_⟩ | refine Or.inl ⟨_, _, rfl, rfl, ?_⟩ | refine ⟨_, _, rfl, ?_⟩ | refine ⟨rfl, ?_⟩ | refine ⟨⟨_, rfl⟩, ?_⟩ | refine Or.inl ⟨_, _, _, rfl, rfl, rfl, ?_⟩ | refine ⟨_, _, _, rfl, rfl, ?_⟩)
      refine iteFq (by simp) ?_
      exact hN _ rfl
    rintro e rfl
    repeat (first | refine ⟨_, rfl, rfl, List.nodup_nil, ?_⟩ | refine ⟨_, rfl, Nat.le_of_ble_eq_true rfl, ?_⟩ | refine ⟨_, rfl, ?_⟩ | refine ⟨_, _, rfl, rfl, ?_⟩ | refine ⟨_, _, _, rfl, rfl, by decide +kernel, ?_⟩ | refine Or.inl ⟨_, rfl, ?_⟩ | refine Or.inr ⟨_, rfl, ?_⟩ | refine Or.inl ⟨_, _, rfl, rfl, ?_⟩ | refine ⟨_, _, rfl, ?_⟩ | refine ⟨rfl, ?_⟩ | refine ⟨⟨_, rfl⟩, ?_⟩ | refine Or.inl ⟨_, _, _, rfl, rfl, rfl, ?_⟩ | refine ⟨_, _, _, rfl, rfl, ?_⟩)
    refine ⟨_, f, x, laps, frmT (msOf r) f x (c0 f laps) - 1, ?_, hgB, by omega, fun fl => ?_⟩
    · exact congrArg (fun z => [strsT (msOf r), T.str f, listsT (msOf r) (LL x laps), T.str x, T.int z]) (show (frmT (msOf r) f x (c0 f laps) : Int) - 1 = ((frmT (msOf r) f x (c0 f laps) - 1 : Nat) : Int) by omega)
    refine ⟨_, rfl, _, _, _, _, rfl, rfl, by rw [dget_map, if_pos hx], ?_⟩
    repeat (first | refine ⟨_, rfl, rfl, List.nodup_nil, ?_⟩ | refine ⟨_, rfl, Nat.le_of_ble_eq_true rfl, ?_⟩ | refine ⟨_, rfl, ?_⟩ | refine ⟨_, _, rfl, rfl, ?_⟩ | refine ⟨_, _, _, rfl, rfl, by decide +kernel, ?_⟩ | refine Or.inl ⟨_, rfl, ?_⟩ | refine Or.inr ⟨_, rfl, ?_⟩ | refine Or.inl ⟨_, _, rfl, rfl, ?_⟩ | refine ⟨_, _, rfl, ?_⟩ | refine ⟨rfl, ?_⟩ | refine ⟨⟨_, rfl⟩, ?_⟩ | refine Or.inl ⟨_, _, _, rfl, rfl, rfl, ?_⟩ | refine ⟨_, _, _, rfl, rfl, ?_⟩)
    rw [show mkL ((asc (oth (msOf r) x) (dec (c0 f laps) f)).map T.str).reverse = _ from rev_strs _]
    refine roAdd_strs (xs := [f]) (by rw [List.length_reverse]; simp only [List.length_singleton]; omega) ?_
    refine ⟨_, (congrArg (fun l => teq (strsT l) (strsT ([f] ++ (asc (oth (msOf r) x) (dec (c0 f laps) f)).reverse))) eV1).trans (teq_strs hokR hokR), ?_⟩
    repeat (first | refine ⟨_, rfl, rfl, List.nodup_nil, ?_⟩ | refine ⟨_, rfl, Nat.le_of_ble_eq_true rfl, ?_⟩ | refine ⟨_, rfl, ?_⟩ | refine ⟨_, _, rfl, rfl, ?_⟩ | refine ⟨_, _, _, rfl, rfl, by decide +kernel, ?_⟩ | refine Or.inl ⟨_, rfl, ?_⟩ | refine Or.inr ⟨_, rfl, ?_⟩ | refine Or.inl ⟨_, _, rfl, rfl, ?_⟩ | refine ⟨_, _, rfl, ?_⟩ | refine ⟨rfl, ?_⟩ | refine ⟨⟨_, rfl⟩, ?_⟩ | refine Or.inl ⟨_, _, _, rfl, rfl, rfl, ?_⟩ | refine ⟨_, _, _, rfl, rfl, ?_⟩)
    refine iteFq (by simp) ?_
    exact hN0 _ ⟨_, _, _, _, _, _, _, _, _, _, _, _, _, _, rfl⟩
  · rintro e ⟨o1, o2, o3, o4, o5, o6, o7, o8, o9, o10, o11, o12, o13, o14, rfl⟩
    exact q
end
end Q
end

section
set_option maxRecDepth 100000
set_option maxHeartbeats 4000000
namespace Q
open PySem L2
def spLaw (K : PySem.W.Frag) : Sp := fun vs H Q _ => ∃ (a : Addr) (ns : List Int), vs = [.ref a] ∧ SqL K H a (ns.map V.int) ∧ ns.length ≤ 63 ∧ ∀ H', Q (.bl true) H'
theorem rep_ints {K : PySem.W.Frag} {F : Hp} : ∀ ns : List Int, RepL K F (ns.map V.int) (ns.map T.int)
  | [] => by simp [RepL]
  | n :: ns => by
    simp only [List.map_cons, RepL]
    exact ⟨_, _, rfl, by simp [Rep], rep_ints ns⟩
theorem law_in {K : PySem.W.Frag} {C : Addr} {vs : List V} {H : Hp} {Q : VK} {E : XK} (h : spLaw K vs H Q E) : spOf K 1 (rc (k_law C)) vs H Q E := by
  obtain ⟨a, ns, rfl, hS, hl, k⟩ := h
  refine ⟨H, fun _ => False, [(false, .rd (ns.map T.int))], fun r _ => r = (false, .bl true), rfl, ⟨fun _ _ h => h, fun _ h => h.elim, Nat.le_refl _, fun _ => [], fun i r e => ?_, fun _ => List.nodup_nil, by simp, by simp⟩, rfl, ⟨ns, rfl, hl, rfl⟩, fun r post v H' e O => ?_⟩
  · cases i with
    | zero =>
      simp at e
      subst e
      refine ⟨.ref a, rfl, ?_⟩
      rw [Res.ff]
      refine ⟨rfl, ?_⟩
      simp only [Rep]
      exact ⟨a, _, rfl, hS, rep_ints ns⟩
    | succ i => simp at e
  · subst e
    obtain ⟨F', A', Ar, S, st, re, nd, fr⟩ := O
    have := (Res.av re).1
    subst this
    exact k _
theorem all_mk {l : PySem.W.OpenLaw} {w : World} {K : PySem.W.Frag} {h : Heap} {mg : Str → Option Value} {fa : Addr} (X : K.In h) (G : h.Ns mainGlobals mg) (hfa : mg "law" = some (.ref fa)) {C_Lost : Addr} {tk_LETTERS : Tok} {tk_MAX_LETTERS : Tok} {tk_MAX_MEMBERS : Tok}
    {f1 : Addr} {od1 an1 : Option Addr} {sl1 : Array (Option Value)} {oc1 kV1 dc1 pm1 cd1 ct1 : Value}
    {f2 : Addr} {od2 an2 : Option Addr} {sl2 : Array (Option Value)} {oc2 kV2 dc2 pm2 cd2 ct2 : Value}
    {f3 : Addr} {od3 an3 : Option Addr} {sl3 : Array (Option Value)} {oc3 kV3 dc3 pm3 cd3 ct3 : Value}
    {f4 : Addr} {od4 an4 : Option Addr} {sl4 : Array (Option Value)} {oc4 kV4 dc4 pm4 cd4 ct4 : Value}
    {f5 : Addr} {od5 an5 : Option Addr} {sl5 : Array (Option Value)} {oc5 kV5 dc5 pm5 cd5 ct5 : Value}
    {f6 : Addr} {od6 an6 : Option Addr} {sl6 : Array (Option Value)} {oc6 kV6 dc6 pm6 cd6 ct6 : Value}
    {f7 : Addr} {od7 an7 : Option Addr} {sl7 : Array (Option Value)} {oc7 kV7 dc7 pm7 cd7 ct7 : Value}
    {f8 : Addr} {od8 an8 : Option Addr} {sl8 : Array (Option Value)} {oc8 kV8 dc8 pm8 cd8 ct8 : Value}
    {f9 : Addr} {od9 an9 : Option Addr} {sl9 : Array (Option Value)} {oc9 kV9 dc9 pm9 cd9 ct9 : Value}
    {f10 : Addr} {od10 an10 : Option Addr} {sl10 : Array (Option Value)} {oc10 kV10 dc10 pm10 cd10 ct10 : Value}
    {f11 : Addr} {od11 an11 : Option Addr} {sl11 : Array (Option Value)} {oc11 kV11 dc11 pm11 cd11 ct11 : Value}
    {f12 : Addr} {od12 an12 : Option Addr} {sl12 : Array (Option Value)} {oc12 kV12 dc12 pm12 cd12 ct12 : Value}
    {f13 : Addr} {od13 an13 : Option Addr} {sl13 : Array (Option Value)} {oc13 kV13 dc13 pm13 cd13 ct13 : Value}
    {f14 : Addr} {od14 an14 : Option Addr} {sl14 : Array (Option Value)} {oc14 kV14 dc14 pm14 cd14 ct14 : Value}
    {f15 : Addr} {od15 an15 : Option Addr} {sl15 : Array (Option Value)} {oc15 kV15 dc15 pm15 cd15 ct15 : Value}
    {f16 : Addr} {od16 an16 : Option Addr} {sl16 : Array (Option Value)} {oc16 kV16 dc16 pm16 cd16 ct16 : Value}
    {f17 : Addr} {od17 an17 : Option Addr} {sl17 : Array (Option Value)} {oc17 kV17 dc17 pm17 cd17 ct17 : Value}
    {f18 : Addr} {od18 an18 : Option Addr} {sl18 : Array (Option Value)} {oc18 kV18 dc18 pm18 cd18 ct18 : Value}
    {f19 : Addr} {od19 an19 : Option Addr} {sl19 : Array (Option Value)} {oc19 kV19 dc19 pm19 cd19 ct19 : Value}
    {f20 : Addr} {od20 an20 : Option Addr} {sl20 : Array (Option Value)} {oc20 kV20 dc20 pm20 cd20 ct20 : Value}
    {f21 : Addr} {od21 an21 : Option Addr} {sl21 : Array (Option Value)} {oc21 kV21 dc21 pm21 cd21 ct21 : Value}
    {f22 : Addr} {od22 an22 : Option Addr} {sl22 : Array (Option Value)} {oc22 kV22 dc22 pm22 cd22 ct22 : Value}
    {f23 : Addr} {od23 an23 : Option Addr} {sl23 : Array (Option Value)} {oc23 kV23 dc23 pm23 cd23 ct23 : Value}
    {f24 : Addr} {od24 an24 : Option Addr} {sl24 : Array (Option Value)} {oc24 kV24 dc24 pm24 cd24 ct24 : Value}
    {f25 : Addr} {od25 an25 : Option Addr} {sl25 : Array (Option Value)} {oc25 kV25 dc25 pm25 cd25 ct25 : Value}
    {f26 : Addr} {od26 an26 : Option Addr} {sl26 : Array (Option Value)} {oc26 kV26 dc26 pm26 cd26 ct26 : Value}
    {f27 : Addr} {od27 an27 : Option Addr} {sl27 : Array (Option Value)} {oc27 kV27 dc27 pm27 cd27 ct27 : Value}
    {f28 : Addr} {od28 an28 : Option Addr} {sl28 : Array (Option Value)} {oc28 kV28 dc28 pm28 cd28 ct28 : Value}
    {f29 : Addr} {od29 an29 : Option Addr} {sl29 : Array (Option Value)} {oc29 kV29 dc29 pm29 cd29 ct29 : Value}
    (aC_Lost : PySem.W.nsIn K mainGlobals "Lost" = some (some (.ref C_Lost)))
    (a1 : PySem.W.nsIn K mainGlobals "is_name" = some (some (.ref f1)))
    (l1 : K.lookup f1 = some ⟨oc1, od1, .func (PySem.W.fnOf "is_name" "is_name" (defArgs s_is_name) (defBody s_is_name) (defScope s_is_name) .none kV1 dc1 pm1 an1 cd1 ct1), sl1⟩)
    (c1 : PySem.W.codeIn K cd1 "is_name" = true)
    (k1 : PySem.W.keepIn K (.ref f1) = true)
    (a2 : PySem.W.nsIn K mainGlobals "is_members" = some (some (.ref f2)))
    (l2 : K.lookup f2 = some ⟨oc2, od2, .func (PySem.W.fnOf "is_members" "is_members" (defArgs s_is_members) (defBody s_is_members) (defScope s_is_members) .none kV2 dc2 pm2 an2 cd2 ct2), sl2⟩)
    (c2 : PySem.W.codeIn K cd2 "is_members" = true)
    (k2 : PySem.W.keepIn K (.ref f2) = true)
    (a3 : PySem.W.nsIn K mainGlobals "need_members" = some (some (.ref f3)))
    (l3 : K.lookup f3 = some ⟨oc3, od3, .func (PySem.W.fnOf "need_members" "need_members" (defArgs s_need_members) (defBody s_need_members) (defScope s_need_members) .none kV3 dc3 pm3 an3 cd3 ct3), sl3⟩)
    (c3 : PySem.W.codeIn K cd3 "need_members" = true)
    (k3 : PySem.W.keepIn K (.ref f3) = true)
    (a4 : PySem.W.nsIn K mainGlobals "is_member" = some (some (.ref f4)))
    (l4 : K.lookup f4 = some ⟨oc4, od4, .func (PySem.W.fnOf "is_member" "is_member" (defArgs s_is_member) (defBody s_is_member) (defScope s_is_member) .none kV4 dc4 pm4 an4 cd4 ct4), sl4⟩)
    (c4 : PySem.W.codeIn K cd4 "is_member" = true)
    (k4 : PySem.W.keepIn K (.ref f4) = true)
    (a5 : PySem.W.nsIn K mainGlobals "need_member" = some (some (.ref f5)))
    (l5 : K.lookup f5 = some ⟨oc5, od5, .func (PySem.W.fnOf "need_member" "need_member" (defArgs s_need_member) (defBody s_need_member) (defScope s_need_member) .none kV5 dc5 pm5 an5 cd5 ct5), sl5⟩)
    (c5 : PySem.W.codeIn K cd5 "need_member" = true)
    (k5 : PySem.W.keepIn K (.ref f5) = true)
    (a6 : PySem.W.nsIn K mainGlobals "are_lists_of" = some (some (.ref f6)))
    (l6 : K.lookup f6 = some ⟨oc6, od6, .func (PySem.W.fnOf "are_lists_of" "are_lists_of" (defArgs s_are_lists_of) (defBody s_are_lists_of) (defScope s_are_lists_of) .none kV6 dc6 pm6 an6 cd6 ct6), sl6⟩)
    (c6 : PySem.W.codeIn K cd6 "are_lists_of" = true)
    (k6 : PySem.W.keepIn K (.ref f6) = true)
    (a7 : PySem.W.nsIn K mainGlobals "need_lists" = some (some (.ref f7)))
    (l7 : K.lookup f7 = some ⟨oc7, od7, .func (PySem.W.fnOf "need_lists" "need_lists" (defArgs s_need_lists) (defBody s_need_lists) (defScope s_need_lists) .none kV7 dc7 pm7 an7 cd7 ct7), sl7⟩)
    (c7 : PySem.W.codeIn K cd7 "need_lists" = true)
    (k7 : PySem.W.keepIn K (.ref f7) = true)
    (a8 : PySem.W.nsIn K mainGlobals "uses_of" = some (some (.ref f8)))
    (l8 : K.lookup f8 = some ⟨oc8, od8, .func (PySem.W.fnOf "uses_of" "uses_of" (defArgs s_uses_of) (defBody s_uses_of) (defScope s_uses_of) .none kV8 dc8 pm8 an8 cd8 ct8), sl8⟩)
    (c8 : PySem.W.codeIn K cd8 "uses_of" = true)
    (k8 : PySem.W.keepIn K (.ref f8) = true)
    (a9 : PySem.W.nsIn K mainGlobals "surpluses_of" = some (some (.ref f9)))
    (l9 : K.lookup f9 = some ⟨oc9, od9, .func (PySem.W.fnOf "surpluses_of" "surpluses_of" (defArgs s_surpluses_of) (defBody s_surpluses_of) (defScope s_surpluses_of) .none kV9 dc9 pm9 an9 cd9 ct9), sl9⟩)
    (c9 : PySem.W.codeIn K cd9 "surpluses_of" = true)
    (k9 : PySem.W.keepIn K (.ref f9) = true)
    (a10 : PySem.W.nsIn K mainGlobals "starts_of" = some (some (.ref f10)))
    (l10 : K.lookup f10 = some ⟨oc10, od10, .func (PySem.W.fnOf "starts_of" "starts_of" (defArgs s_starts_of) (defBody s_starts_of) (defScope s_starts_of) .none kV10 dc10 pm10 an10 cd10 ct10), sl10⟩)
    (c10 : PySem.W.codeIn K cd10 "starts_of" = true)
    (k10 : PySem.W.keepIn K (.ref f10) = true)
    (a11 : PySem.W.nsIn K mainGlobals "ring_at" = some (some (.ref f11)))
    (l11 : K.lookup f11 = some ⟨oc11, od11, .func (PySem.W.fnOf "ring_at" "ring_at" (defArgs s_ring_at) (defBody s_ring_at) (defScope s_ring_at) .none kV11 dc11 pm11 an11 cd11 ct11), sl11⟩)
    (c11 : PySem.W.codeIn K cd11 "ring_at" = true)
    (k11 : PySem.W.keepIn K (.ref f11) = true)
    (a12 : PySem.W.nsIn K mainGlobals "least_ring" = some (some (.ref f12)))
    (l12 : K.lookup f12 = some ⟨oc12, od12, .func (PySem.W.fnOf "least_ring" "least_ring" (defArgs s_least_ring) (defBody s_least_ring) (defScope s_least_ring) .none kV12 dc12 pm12 an12 cd12 ct12), sl12⟩)
    (c12 : PySem.W.codeIn K cd12 "least_ring" = true)
    (k12 : PySem.W.keepIn K (.ref f12) = true)
    (a13 : PySem.W.nsIn K mainGlobals "need_lost" = some (some (.ref f13)))
    (l13 : K.lookup f13 = some ⟨oc13, od13, .func (PySem.W.fnOf "need_lost" "need_lost" (defArgs s_need_lost) (defBody s_need_lost) (defScope s_need_lost) .none kV13 dc13 pm13 an13 cd13 ct13), sl13⟩)
    (c13 : PySem.W.codeIn K cd13 "need_lost" = true)
    (k13 : PySem.W.keepIn K (.ref f13) = true)
    (a14 : PySem.W.nsIn K mainGlobals "with_list" = some (some (.ref f14)))
    (l14 : K.lookup f14 = some ⟨oc14, od14, .func (PySem.W.fnOf "with_list" "with_list" (defArgs s_with_list) (defBody s_with_list) (defScope s_with_list) .none kV14 dc14 pm14 an14 cd14 ct14), sl14⟩)
    (c14 : PySem.W.codeIn K cd14 "with_list" = true)
    (k14 : PySem.W.keepIn K (.ref f14) = true)
    (a15 : PySem.W.nsIn K mainGlobals "arrangements" = some (some (.ref f15)))
    (l15 : K.lookup f15 = some ⟨oc15, od15, .func (PySem.W.fnOf "arrangements" "arrangements" (defArgs s_arrangements) (defBody s_arrangements) (defScope s_arrangements) .none kV15 dc15 pm15 an15 cd15 ct15), sl15⟩)
    (c15 : PySem.W.codeIn K cd15 "arrangements" = true)
    (k15 : PySem.W.keepIn K (.ref f15) = true)
    (a16 : PySem.W.findIn K (.ref C_Lost) "leads" = some (some (.ref f16)))
    (i16 : PySem.W.isFn K (.ref f16) = true)
    (l16 : K.lookup f16 = some ⟨oc16, od16, .func (PySem.W.fnOf "leads" "Lost.leads" (defArgs s_Lost_leads) (defBody s_Lost_leads) (defScope s_Lost_leads) .none kV16 dc16 pm16 an16 cd16 ct16), sl16⟩)
    (c16 : PySem.W.codeIn K cd16 "Lost.leads" = true)
    (k16 : PySem.W.keepIn K (.ref f16) = true)
    (a17 : PySem.W.findIn K (.ref C_Lost) "__init__" = some (some (.ref f17)))
    (i17 : PySem.W.isFn K (.ref f17) = true)
    (l17 : K.lookup f17 = some ⟨oc17, od17, .func (PySem.W.fnOf "__init__" "Lost.__init__" (defArgs s_Lostzz_initzz) (defBody s_Lostzz_initzz) (defScope s_Lostzz_initzz) .none kV17 dc17 pm17 an17 cd17 ct17), sl17⟩)
    (c17 : PySem.W.codeIn K cd17 "Lost.__init__" = true)
    (k17 : PySem.W.keepIn K (.ref f17) = true)
    (a18 : PySem.W.findIn K (.ref C_Lost) "next_names" = some (some (.ref f18)))
    (i18 : PySem.W.isFn K (.ref f18) = true)
    (l18 : K.lookup f18 = some ⟨oc18, od18, .func (PySem.W.fnOf "next_names" "Lost.next_names" (defArgs s_Lost_next_names) (defBody s_Lost_next_names) (defScope s_Lost_next_names) .none kV18 dc18 pm18 an18 cd18 ct18), sl18⟩)
    (c18 : PySem.W.codeIn K cd18 "Lost.next_names" = true)
    (k18 : PySem.W.keepIn K (.ref f18) = true)
    (a19 : PySem.W.findIn K (.ref C_Lost) "without" = some (some (.ref f19)))
    (i19 : PySem.W.isFn K (.ref f19) = true)
    (l19 : K.lookup f19 = some ⟨oc19, od19, .func (PySem.W.fnOf "without" "Lost.without" (defArgs s_Lost_without) (defBody s_Lost_without) (defScope s_Lost_without) .none kV19 dc19 pm19 an19 cd19 ct19), sl19⟩)
    (c19 : PySem.W.codeIn K cd19 "Lost.without" = true)
    (k19 : PySem.W.keepIn K (.ref f19) = true)
    (a20 : PySem.W.findIn K (.ref C_Lost) "lists_from" = some (some (.ref f20)))
    (i20 : PySem.W.isFn K (.ref f20) = true)
    (l20 : K.lookup f20 = some ⟨oc20, od20, .func (PySem.W.fnOf "lists_from" "Lost.lists_from" (defArgs s_Lost_lists_from) (defBody s_Lost_lists_from) (defScope s_Lost_lists_from) .none kV20 dc20 pm20 an20 cd20 ct20), sl20⟩)
    (c20 : PySem.W.codeIn K cd20 "Lost.lists_from" = true)
    (k20 : PySem.W.keepIn K (.ref f20) = true)
    (a21 : PySem.W.findIn K (.ref C_Lost) "after" = some (some (.ref f21)))
    (i21 : PySem.W.isFn K (.ref f21) = true)
    (l21 : K.lookup f21 = some ⟨oc21, od21, .func (PySem.W.fnOf "after" "Lost.after" (defArgs s_Lost_after) (defBody s_Lost_after) (defScope s_Lost_after) .none kV21 dc21 pm21 an21 cd21 ct21), sl21⟩)
    (c21 : PySem.W.codeIn K cd21 "Lost.after" = true)
    (k21 : PySem.W.keepIn K (.ref f21) = true)
    (a22 : PySem.W.findIn K (.ref C_Lost) "total" = some (some (.ref f22)))
    (i22 : PySem.W.isFn K (.ref f22) = true)
    (l22 : K.lookup f22 = some ⟨oc22, od22, .func (PySem.W.fnOf "total" "Lost.total" (defArgs s_Lost_total) (defBody s_Lost_total) (defScope s_Lost_total) .none kV22 dc22 pm22 an22 cd22 ct22), sl22⟩)
    (c22 : PySem.W.codeIn K cd22 "Lost.total" = true)
    (k22 : PySem.W.keepIn K (.ref f22) = true)
    (a23 : PySem.W.nsIn K mainGlobals "count_recoveries" = some (some (.ref f23)))
    (l23 : K.lookup f23 = some ⟨oc23, od23, .func (PySem.W.fnOf "count_recoveries" "count_recoveries" (defArgs s_count_recoveries) (defBody s_count_recoveries) (defScope s_count_recoveries) .none kV23 dc23 pm23 an23 cd23 ct23), sl23⟩)
    (c23 : PySem.W.codeIn K cd23 "count_recoveries" = true)
    (k23 : PySem.W.keepIn K (.ref f23) = true)
    (a24 : PySem.W.nsIn K mainGlobals "nth_recovery" = some (some (.ref f24)))
    (l24 : K.lookup f24 = some ⟨oc24, od24, .func (PySem.W.fnOf "nth_recovery" "nth_recovery" (defArgs s_nth_recovery) (defBody s_nth_recovery) (defScope s_nth_recovery) .none kV24 dc24 pm24 an24 cd24 ct24), sl24⟩)
    (c24 : PySem.W.codeIn K cd24 "nth_recovery" = true)
    (k24 : PySem.W.keepIn K (.ref f24) = true)
    (a25 : PySem.W.nsIn K mainGlobals "possible_last_holders" = some (some (.ref f25)))
    (l25 : K.lookup f25 = some ⟨oc25, od25, .func (PySem.W.fnOf "possible_last_holders" "possible_last_holders" (defArgs s_possible_last_holders) (defBody s_possible_last_holders) (defScope s_possible_last_holders) .none kV25 dc25 pm25 an25 cd25 ct25), sl25⟩)
    (c25 : PySem.W.codeIn K cd25 "possible_last_holders" = true)
    (k25 : PySem.W.keepIn K (.ref f25) = true)
    (a26 : PySem.W.nsIn K mainGlobals "_law_tin" = some (some (.ref f26)))
    (l26 : K.lookup f26 = some ⟨oc26, od26, .func (PySem.W.fnOf "_law_tin" "_law_tin" (defArgs s__law_tin) (defBody s__law_tin) (defScope s__law_tin) .none kV26 dc26 pm26 an26 cd26 ct26), sl26⟩)
    (c26 : PySem.W.codeIn K cd26 "_law_tin" = true)
    (k26 : PySem.W.keepIn K (.ref f26) = true)
    (a27 : PySem.W.nsIn K mainGlobals "_law_pinch" = some (some (.ref f27)))
    (l27 : K.lookup f27 = some ⟨oc27, od27, .func (PySem.W.fnOf "_law_pinch" "_law_pinch" (defArgs s__law_pinch) (defBody s__law_pinch) (defScope s__law_pinch) .none kV27 dc27 pm27 an27 cd27 ct27), sl27⟩)
    (c27 : PySem.W.codeIn K cd27 "_law_pinch" = true)
    (k27 : PySem.W.keepIn K (.ref f27) = true)
    (a28 : PySem.W.nsIn K mainGlobals "_law_arranged" = some (some (.ref f28)))
    (l28 : K.lookup f28 = some ⟨oc28, od28, .func (PySem.W.fnOf "_law_arranged" "_law_arranged" (defArgs s__law_arranged) (defBody s__law_arranged) (defScope s__law_arranged) .none kV28 dc28 pm28 an28 cd28 ct28), sl28⟩)
    (c28 : PySem.W.codeIn K cd28 "_law_arranged" = true)
    (k28 : PySem.W.keepIn K (.ref f28) = true)
    (a29 : PySem.W.nsIn K mainGlobals "law" = some (some (.ref f29)))
    (l29 : K.lookup f29 = some ⟨oc29, od29, .func (PySem.W.fnOf "law" "law" (defArgs s_law) (defBody s_law) (defScope s_law) .none kV29 dc29 pm29 an29 cd29 ct29), sl29⟩)
    (c29 : PySem.W.codeIn K cd29 "law" = true)
    (k29 : PySem.W.keepIn K (.ref f29) = true)
    (pg_Lost : PySem.W.plainGet K C_Lost Str.empty = true)
    (hd_Lost : PySem.W.hasDictIn K C_Lost = true)
    (po_Lost : PySem.W.plainOver K C_Lost = true)
    (sa_Lost : PySem.W.findIn K (.ref C_Lost) "__setattr__" = some (some (.builtin "object.__setattr__")))
    (mk_Lost : PySem.W.makesIn K C_Lost = true)
    (kc_Lost : PySem.W.keepIn K (.ref C_Lost) = true)
    (n_Lost_bag : PySem.W.findIn K (.ref C_Lost) "bag" = some none)
    (n_Lost_possible : PySem.W.findIn K (.ref C_Lost) "possible" = some none)
    (n_Lost_starts : PySem.W.findIn K (.ref C_Lost) "starts" = some none)
    (z_len : PySem.W.nsIn K mainGlobals "len" = some none)
    (z_range : PySem.W.nsIn K mainGlobals "range" = some none)
    (z_isinstance : PySem.W.nsIn K mainGlobals "isinstance" = some none)
    (z_str : PySem.W.nsIn K mainGlobals "str" = some none)
    (z_int : PySem.W.nsIn K mainGlobals "int" = some none)
    (z_bool : PySem.W.nsIn K mainGlobals "bool" = some none)
    (z_list : PySem.W.nsIn K mainGlobals "list" = some none)
    (z_dict : PySem.W.nsIn K mainGlobals "dict" = some none)
    (z_tuple : PySem.W.nsIn K mainGlobals "tuple" = some none)
    (z_all : PySem.W.nsIn K mainGlobals "all" = some none)
    (z_any : PySem.W.nsIn K mainGlobals "any" = some none)
    (z_sum : PySem.W.nsIn K mainGlobals "sum" = some none)
    (z_zip : PySem.W.nsIn K mainGlobals "zip" = some none)
    (z_sorted : PySem.W.nsIn K mainGlobals "sorted" = some none)
    (z_max : PySem.W.nsIn K mainGlobals "max" = some none)
    (z_min : PySem.W.nsIn K mainGlobals "min" = some none)
    (z_abs : PySem.W.nsIn K mainGlobals "abs" = some none)
    (z_repr : PySem.W.nsIn K mainGlobals "repr" = some none)
    (z_set : PySem.W.nsIn K mainGlobals "set" = some none)
    (z_enumerate : PySem.W.nsIn K mainGlobals "enumerate" = some none)
    (u_LETTERS : PySem.W.nsIn K mainGlobals "LETTERS" = some (some (.str "abcdefghijklmnopqrstuvwxyz" tk_LETTERS)))
    (u_MAX_LETTERS : PySem.W.nsIn K mainGlobals "MAX_LETTERS" = some (some (.int 8 tk_MAX_LETTERS)))
    (u_MAX_MEMBERS : PySem.W.nsIn K mainGlobals "MAX_MEMBERS" = some (some (.int 12 tk_MAX_MEMBERS))) :
    ∃ fd : FuncData, (∀ (s : Shared) (v : Value), BindsTo s fd ⟨[v], []⟩ [("_law_script", v)]) ∧ ∀ base : Heap, K.In base → base.Ns mainGlobals mg → FnOk l.prog w K mg base CX0 7 fa fd ["_law_script"] (spLaw K) := by
  have e := hfa.symm.trans (PySem.W.mg_of X G a29)
  cases e
  have TX : Txt K mg C_Lost := ⟨⟨_, PySem.W.mg_of X G u_LETTERS, ⟨_, rfl⟩⟩, ⟨_, PySem.W.mg_of X G u_MAX_LETTERS, ⟨_, rfl⟩⟩, ⟨_, PySem.W.mg_of X G u_MAX_MEMBERS, ⟨_, rfl⟩⟩, ⟨pg_Lost, hd_Lost, po_Lost, sa_Lost⟩, n_Lost_bag, n_Lost_possible, n_Lost_starts⟩
  have B : Blt mg := ⟨PySem.W.mg_none_of X G z_len, PySem.W.mg_none_of X G z_range, PySem.W.mg_none_of X G z_isinstance, PySem.W.mg_none_of X G z_str, PySem.W.mg_none_of X G z_int, PySem.W.mg_none_of X G z_bool, PySem.W.mg_none_of X G z_list, PySem.W.mg_none_of X G z_dict, PySem.W.mg_none_of X G z_tuple, PySem.W.mg_none_of X G z_all, PySem.W.mg_none_of X G z_any, PySem.W.mg_none_of X G z_sum, PySem.W.mg_none_of X G z_zip, PySem.W.mg_none_of X G z_sorted, PySem.W.mg_none_of X G z_max, PySem.W.mg_none_of X G z_min, PySem.W.mg_none_of X G z_abs, PySem.W.mg_none_of X G z_repr, PySem.W.mg_none_of X G z_set, PySem.W.mg_none_of X G z_enumerate⟩
  have F1 := fun_mk (st := s_is_name) l1 c1 k1
  have b1 := F1.binds (ps := ["value"]) fun _ _ _ _ _ _ us hl => match us, hl with | [_], _ => rfl
  have F2 := fun_mk (st := s_is_members) l2 c2 k2
  have b2 := F2.binds (ps := ["value"]) fun _ _ _ _ _ _ us hl => match us, hl with | [_], _ => rfl
  have F3 := fun_mk (st := s_need_members) l3 c3 k3
  have b3 := F3.binds (ps := ["members"]) fun _ _ _ _ _ _ us hl => match us, hl with | [_], _ => rfl
  have F4 := fun_mk (st := s_is_member) l4 c4 k4
  have b4 := F4.binds (ps := ["members", "value"]) fun _ _ _ _ _ _ us hl => match us, hl with | [_, _], _ => rfl
  have F5 := fun_mk (st := s_need_member) l5 c5 k5
  have b5 := F5.binds (ps := ["members", "value"]) fun _ _ _ _ _ _ us hl => match us, hl with | [_, _], _ => rfl
  have F6 := fun_mk (st := s_are_lists_of) l6 c6 k6
  have b6 := F6.binds (ps := ["members", "value"]) fun _ _ _ _ _ _ us hl => match us, hl with | [_, _], _ => rfl
  have F7 := fun_mk (st := s_need_lists) l7 c7 k7
  have b7 := F7.binds (ps := ["members", "first", "lists"]) fun _ _ _ _ _ _ us hl => match us, hl with | [_, _, _], _ => rfl
  have F8 := fun_mk (st := s_uses_of) l8 c8 k8
  have b8 := F8.binds (ps := ["members", "first", "lists"]) fun _ _ _ _ _ _ us hl => match us, hl with | [_, _, _], _ => rfl
  have F9 := fun_mk (st := s_surpluses_of) l9 c9 k9
  have b9 := F9.binds (ps := ["members", "first", "lists"]) fun _ _ _ _ _ _ us hl => match us, hl with | [_, _, _], _ => rfl
  have F10 := fun_mk (st := s_starts_of) l10 c10 k10
  have b10 := F10.binds (ps := ["members", "first", "lists"]) fun _ _ _ _ _ _ us hl => match us, hl with | [_, _, _], _ => rfl
  have F11 := fun_mk (st := s_ring_at) l11 c11 k11
  have b11 := F11.binds (ps := ["starts", "member"]) fun _ _ _ _ _ _ us hl => match us, hl with | [_, _], _ => rfl
  have F12 := fun_mk (st := s_least_ring) l12 c12 k12
  have b12 := F12.binds (ps := ["starts"]) fun _ _ _ _ _ _ us hl => match us, hl with | [_], _ => rfl
  have F13 := fun_mk (st := s_need_lost) l13 c13 k13
  have b13 := F13.binds (ps := ["members", "first", "lists", "member"]) fun _ _ _ _ _ _ us hl => match us, hl with | [_, _, _, _], _ => rfl
  have F14 := fun_mk (st := s_with_list) l14 c14 k14
  have b14 := F14.binds (ps := ["members", "lists", "member", "entries"]) fun _ _ _ _ _ _ us hl => match us, hl with | [_, _, _, _], _ => rfl
  have F15 := fun_mk (st := s_arrangements) l15 c15 k15
  have b15 := F15.binds (ps := ["bag"]) fun _ _ _ _ _ _ us hl => match us, hl with | [_], _ => rfl
  have F16 := fun_mk (st := s_Lost_leads) l16 c16 k16
  have b16 := F16.binds (ps := ["self", "first", "lists", "member", "one"]) fun _ _ _ _ _ _ us hl => match us, hl with | [_, _, _, _, _], _ => rfl
  have F17 := fun_mk (st := s_Lostzz_initzz) l17 c17 k17
  have b17 := F17.binds (ps := ["self", "members", "first", "lists", "member"]) fun _ _ _ _ _ _ us hl => match us, hl with | [_, _, _, _, _], _ => rfl
  have F18 := fun_mk (st := s_Lost_next_names) l18 c18 k18
  have b18 := F18.binds (ps := ["self", "bag", "is_start"]) fun _ _ _ _ _ _ us hl => match us, hl with | [_, _, _], _ => rfl
  have F19 := fun_mk (st := s_Lost_without) l19 c19 k19
  have b19 := F19.binds (ps := ["self", "bag", "one"]) fun _ _ _ _ _ _ us hl => match us, hl with | [_, _, _], _ => rfl
  have F20 := fun_mk (st := s_Lost_lists_from) l20 c20 k20
  have b20 := F20.binds (ps := ["self", "bag", "is_start"]) fun _ _ _ _ _ _ us hl => match us, hl with | [_, _, _], _ => rfl
  have F21 := fun_mk (st := s_Lost_after) l21 c21 k21
  have b21 := F21.binds (ps := ["self", "bag", "one"]) fun _ _ _ _ _ _ us hl => match us, hl with | [_, _, _], _ => rfl
  have F22 := fun_mk (st := s_Lost_total) l22 c22 k22
  have b22 := F22.binds (ps := ["self"]) fun _ _ _ _ _ _ us hl => match us, hl with | [_], _ => rfl
  have F23 := fun_mk (st := s_count_recoveries) l23 c23 k23
  have b23 := F23.binds (ps := ["members", "first", "lists", "member"]) fun _ _ _ _ _ _ us hl => match us, hl with | [_, _, _, _], _ => rfl
  have F24 := fun_mk (st := s_nth_recovery) l24 c24 k24
  have b24 := F24.binds (ps := ["members", "first", "lists", "member", "number"]) fun _ _ _ _ _ _ us hl => match us, hl with | [_, _, _, _, _], _ => rfl
  have F25 := fun_mk (st := s_possible_last_holders) l25 c25 k25
  have b25 := F25.binds (ps := ["members", "first", "lists", "member"]) fun _ _ _ _ _ _ us hl => match us, hl with | [_, _, _, _], _ => rfl
  have F26 := fun_mk (st := s__law_tin) l26 c26 k26
  have b26 := F26.binds (ps := ["_law_script", "_law_k"]) fun _ _ _ _ _ _ us hl => match us, hl with | [_, _], _ => rfl
  have F27 := fun_mk (st := s__law_pinch) l27 c27 k27
  have b27 := F27.binds (ps := ["_law_tin_here", "_law_many"]) fun _ _ _ _ _ _ us hl => match us, hl with | [_, _], _ => rfl
  have F28 := fun_mk (st := s__law_arranged) l28 c28 k28
  have b28 := F28.binds (ps := ["_law_names"]) fun _ _ _ _ _ _ us hl => match us, hl with | [_], _ => rfl
  have F29 := fun_mk (st := s_law) l29 c29 k29
  have b29 := F29.binds (ps := ["_law_script"]) fun _ _ _ _ _ _ us hl => match us, hl with | [_], _ => rfl
  refine ⟨PySem.W.fnOf "law" "law" (defArgs s_law) (defBody s_law) (defScope s_law) .none kV29 dc29 pm29 an29 cd29 ct29, fun s v => .of_eq rfl, fun base _ _ => ?_⟩
  have K_is_name := ok_is_name (P := l.prog) (w := w) (base := base) B TX  F1
  have H_is_name : Callee l.prog w K mg base "is_name" 1 1 (rc k_is_name) := ⟨⟨_, _, _, K_is_name, PySem.W.mg_of X G a1, k1, b1⟩⟩
  have K_is_members := ok_is_members (P := l.prog) (w := w) (base := base) B TX H_is_name F2
  have H_is_members : Callee l.prog w K mg base "is_members" 2 1 (rc k_is_members) := ⟨⟨_, _, _, K_is_members, PySem.W.mg_of X G a2, k2, b2⟩⟩
  have K_need_members := ok_need_members (P := l.prog) (w := w) (base := base) B TX H_is_members F3
  have H_need_members : Callee l.prog w K mg base "need_members" 3 1 (rc k_need_members) := ⟨⟨_, _, _, K_need_members, PySem.W.mg_of X G a3, k3, b3⟩⟩
  have K_is_member := ok_is_member (P := l.prog) (w := w) (base := base) B TX  F4
  have H_is_member : Callee l.prog w K mg base "is_member" 1 2 (rc k_is_member) := ⟨⟨_, _, _, K_is_member, PySem.W.mg_of X G a4, k4, b4⟩⟩
  have K_need_member := ok_need_member (P := l.prog) (w := w) (base := base) B TX H_is_member F5
  have H_need_member : Callee l.prog w K mg base "need_member" 2 2 (rc k_need_member) := ⟨⟨_, _, _, K_need_member, PySem.W.mg_of X G a5, k5, b5⟩⟩
  have K_are_lists_of := ok_are_lists_of (P := l.prog) (w := w) (base := base) B TX H_is_member F6
  have H_are_lists_of : Callee l.prog w K mg base "are_lists_of" 2 2 (rc k_are_lists_of) := ⟨⟨_, _, _, K_are_lists_of, PySem.W.mg_of X G a6, k6, b6⟩⟩
  have K_need_lists := ok_need_lists (P := l.prog) (w := w) (base := base) B TX H_need_members H_need_member H_are_lists_of F7
  have H_need_lists : Callee l.prog w K mg base "need_lists" 4 3 (rc k_need_lists) := ⟨⟨_, _, _, K_need_lists, PySem.W.mg_of X G a7, k7, b7⟩⟩
  have K_uses_of := ok_uses_of (P := l.prog) (w := w) (base := base) B TX  F8
  have H_uses_of : Callee l.prog w K mg base "uses_of" 1 3 (rc k_uses_of) := ⟨⟨_, _, _, K_uses_of, PySem.W.mg_of X G a8, k8, b8⟩⟩
  have K_surpluses_of := ok_surpluses_of (P := l.prog) (w := w) (base := base) B TX H_uses_of F9
  have H_surpluses_of : Callee l.prog w K mg base "surpluses_of" 2 3 (rc k_surpluses_of) := ⟨⟨_, _, _, K_surpluses_of, PySem.W.mg_of X G a9, k9, b9⟩⟩
  have K_starts_of := ok_starts_of (P := l.prog) (w := w) (base := base) B TX  F10
  have H_starts_of : Callee l.prog w K mg base "starts_of" 1 3 (rc k_starts_of) := ⟨⟨_, _, _, K_starts_of, PySem.W.mg_of X G a10, k10, b10⟩⟩
  have K_ring_at := ok_ring_at (P := l.prog) (w := w) (base := base) B TX  F11
  have H_ring_at : Callee l.prog w K mg base "ring_at" 1 2 (rc k_ring_at) := ⟨⟨_, _, _, K_ring_at, PySem.W.mg_of X G a11, k11, b11⟩⟩
  have K_least_ring := ok_least_ring (P := l.prog) (w := w) (base := base) B TX H_ring_at F12
  have H_least_ring : Callee l.prog w K mg base "least_ring" 2 1 (rc k_least_ring) := ⟨⟨_, _, _, K_least_ring, PySem.W.mg_of X G a12, k12, b12⟩⟩
  have K_need_lost := ok_need_lost (P := l.prog) (w := w) (base := base) B TX H_need_lists H_need_member F13
  have H_need_lost : Callee l.prog w K mg base "need_lost" 5 4 (rc k_need_lost) := ⟨⟨_, _, _, K_need_lost, PySem.W.mg_of X G a13, k13, b13⟩⟩
  have K_with_list := ok_with_list (P := l.prog) (w := w) (base := base) B TX  F14
  have H_with_list : Callee l.prog w K mg base "with_list" 1 4 (rc k_with_list) := ⟨⟨_, _, _, K_with_list, PySem.W.mg_of X G a14, k14, b14⟩⟩
  have K_arrangements := ok_arrangements (P := l.prog) (w := w) (base := base) B TX  F15
  have H_arrangements : Callee l.prog w K mg base "arrangements" 1 1 (rc k_arrangements) := ⟨⟨_, _, _, K_arrangements, PySem.W.mg_of X G a15, k15, b15⟩⟩
  have K_Lost_leads := ok_Lost_leads (P := l.prog) (w := w) (base := base) B TX  F16
  have H_Lost_leads : CalleeM l.prog w K mg base C_Lost "leads" 1 5 (rc (k_Lost_leads C_Lost)) := ⟨⟨_, _, _, K_Lost_leads, ⟨a16, i16, k16⟩, b16⟩⟩
  have K_Lostzz_initzz := ok_Lostzz_initzz (P := l.prog) (w := w) (base := base) B TX H_surpluses_of H_least_ring H_starts_of H_Lost_leads F17
  have H_Lost : CalleeC l.prog w K mg base "Lost" C_Lost 3 5 (k_Lostzz_initzz C_Lost) := ⟨⟨_, _, _, K_Lostzz_initzz, ⟨mk_Lost, a17, i17, kc_Lost⟩, PySem.W.mg_of X G aC_Lost, b17⟩⟩
  have K_Lost_next_names := ok_Lost_next_names (P := l.prog) (w := w) (base := base) B TX  F18
  have H_Lost_next_names : CalleeM l.prog w K mg base C_Lost "next_names" 1 3 (rc (k_Lost_next_names C_Lost)) := ⟨⟨_, _, _, K_Lost_next_names, ⟨a18, i18, k18⟩, b18⟩⟩
  have K_Lost_without := ok_Lost_without (P := l.prog) (w := w) (base := base) B TX  F19
  have H_Lost_without : CalleeM l.prog w K mg base C_Lost "without" 1 3 (rc (k_Lost_without C_Lost)) := ⟨⟨_, _, _, K_Lost_without, ⟨a19, i19, k19⟩, b19⟩⟩
  have K_Lost_lists_fromF := ok_Lost_lists_fromF (P := l.prog) (w := w) (base := base) B TX H_arrangements F20
  have H_Lost_lists_fromF : CalleeM l.prog w K mg base C_Lost "lists_from" 2 3 (rc (k_Lost_lists_fromF C_Lost)) := ⟨⟨_, _, _, K_Lost_lists_fromF, ⟨a20, i20, k20⟩, b20⟩⟩
  have K_Lost_after := ok_Lost_after (P := l.prog) (w := w) (base := base) B TX H_Lost_lists_fromF H_Lost_without F21
  have H_Lost_after : CalleeM l.prog w K mg base C_Lost "after" 3 3 (rc (k_Lost_after C_Lost)) := ⟨⟨_, _, _, K_Lost_after, ⟨a21, i21, k21⟩, b21⟩⟩
  have K_Lost_lists_from := ok_Lost_lists_from (P := l.prog) (w := w) (base := base) B TX H_arrangements H_Lost_after H_Lost_next_names F20
  have H_Lost_lists_from : CalleeM l.prog w K mg base C_Lost "lists_from" 4 3 (rc (k_Lost_lists_from C_Lost)) := ⟨⟨_, _, _, K_Lost_lists_from, ⟨a20, i20, k20⟩, b20⟩⟩
  have K_Lost_total := ok_Lost_total (P := l.prog) (w := w) (base := base) B TX H_Lost_lists_from F22
  have H_Lost_total : CalleeM l.prog w K mg base C_Lost "total" 5 1 (rc (k_Lost_total C_Lost)) := ⟨⟨_, _, _, K_Lost_total, ⟨a22, i22, k22⟩, b22⟩⟩
  have K_count_recoveries := ok_count_recoveries (P := l.prog) (w := w) (base := base) B TX H_need_lost H_Lost_total H_Lost F23
  have H_count_recoveries : Callee l.prog w K mg base "count_recoveries" 6 4 (rc (k_count_recoveries C_Lost)) := ⟨⟨_, _, _, K_count_recoveries, PySem.W.mg_of X G a23, k23, b23⟩⟩
  have K_nth_recovery := ok_nth_recovery (P := l.prog) (w := w) (base := base) B TX H_need_lost H_Lost H_Lost_next_names H_Lost_without H_Lost_after H_Lost_total H_with_list F24
  have H_nth_recovery : Callee l.prog w K mg base "nth_recovery" 6 5 (rc (k_nth_recovery C_Lost)) := ⟨⟨_, _, _, K_nth_recovery, PySem.W.mg_of X G a24, k24, b24⟩⟩
  have K_possible_last_holders := ok_possible_last_holders (P := l.prog) (w := w) (base := base) B TX H_need_lost H_Lost H_Lost_without H_Lost_next_names F25
  have H_possible_last_holders : Callee l.prog w K mg base "possible_last_holders" 6 4 (rc (k_possible_last_holders C_Lost)) := ⟨⟨_, _, _, K_possible_last_holders, PySem.W.mg_of X G a25, k25, b25⟩⟩
  have K__law_tin := ok__law_tin (P := l.prog) (w := w) (base := base) B TX  F26
  have H__law_tin : Callee l.prog w K mg base "_law_tin" 1 2 (rc k__law_tin) := ⟨⟨_, _, _, K__law_tin, PySem.W.mg_of X G a26, k26, b26⟩⟩
  have K__law_pinch := ok__law_pinch (P := l.prog) (w := w) (base := base) B TX  F27
  have H__law_pinch : Callee l.prog w K mg base "_law_pinch" 1 2 k__law_pinch := ⟨⟨_, _, _, K__law_pinch, PySem.W.mg_of X G a27, k27, b27⟩⟩
  have K__law_arranged := ok__law_arranged (P := l.prog) (w := w) (base := base) B TX  F28
  have H__law_arranged : Callee l.prog w K mg base "_law_arranged" 1 1 (rc k__law_arranged) := ⟨⟨_, _, _, K__law_arranged, PySem.W.mg_of X G a28, k28, b28⟩⟩
  exact (ok_law (P := l.prog) (w := w) (base := base) B TX H__law_tin H__law_arranged H_count_recoveries H_possible_last_holders H_nth_recovery H__law_pinch F29).imp fun vs H Q E h => law_in h
theorem walk {l : PySem.W.OpenLaw} {q : Program} {loose : List Str} {XP : (Str → Option Value) → Heap → Prop} {YP : World → Heap → Prop} {d : DefRec} {K : Params → PySem.W.Frag} (hn : l.most = some 63) (hdf : d.params.defaults = [])
    (hY : ∀ (w : World) (h : Heap), YP w h → (K w.params).In h)
    (F : ∀ (w : World) (mg : Str → Option Value) (fa : Addr) (h : Heap), (K w.params).In h → h.Ns mainGlobals mg → mg d.name = some (.ref fa) →
      ∃ fd : FuncData, (∀ (s : Shared) (u : Value), BindsTo s fd ⟨[u], []⟩ [("_law_script", u)]) ∧ ∀ base : Heap, (K w.params).In base → base.Ns mainGlobals mg → FnOk l.prog w (K w.params) mg base CX0 7 fa fd ["_law_script"] (spLaw (K w.params))) :
    PySem.W.WalkO q loose XP YP l.row.toRowW d [] (fun f vs => PySem.call f vs) :=
  L2.walk_of (n := 63) (k := 7) (x := "_law_script") (CX := fun _ => CX0) (sp := fun w => spLaw (K w.params)) hn (by decide) hdf ⟨rfl, by decide, by decide⟩ hY F (fun _ _ a ns hl _ hS => ⟨a, ns, rfl, hS, hl, fun _ => rfl⟩) fun _ _ _ _ _ z => z
end Q
open PySem PySem.W PyProof.Rows
set_option maxRecDepth 100000 in
set_option maxHeartbeats 0 in
theorem PySem.Challenge.cw_gotfrom_k43_whole_great_lost_lists_holds : PySem.Challenge.rw_gotfrom_k43_whole_great_lost_lists.Holds := by
  w_on; o_law; k_head; (case hw => w_witness2)
  k_fill
  refine Q.walk (l := PySem.Challenge.rw_gotfrom_k43_whole_great_lost_lists) rfl rfl (fun w h Y => PySem.W.kIn_of Y) ?F
  case F =>
    intro w mg fa h KX G hmg
    refine' Q.all_mk KX G hmg ?aC_Lost ?a1 ?l1 ?c1 ?k1 ?a2 ?l2 ?c2 ?k2 ?a3 ?l3 ?c3 ?k3 ?a4 ?l4 ?c4 ?k4 ?a5 ?l5 ?c5 ?k5 ?a6 ?l6 ?c6 ?k6 ?a7 ?l7 ?c7 ?k7 ?a8 ?l8 ?c8 ?k8 ?a9 ?l9 ?c9 ?k9 ?a10 ?l10 ?c10 ?k10 ?a11 ?l11 ?c11 ?k11 ?a12 ?l12 ?c12 ?k12 ?a13 ?l13 ?c13 ?k13 ?a14 ?l14 ?c14 ?k14 ?a15 ?l15 ?c15 ?k15 ?a16 ?i16 ?l16 ?c16 ?k16 ?a17 ?i17 ?l17 ?c17 ?k17 ?a18 ?i18 ?l18 ?c18 ?k18 ?a19 ?i19 ?l19 ?c19 ?k19 ?a20 ?i20 ?l20 ?c20 ?k20 ?a21 ?i21 ?l21 ?c21 ?k21 ?a22 ?i22 ?l22 ?c22 ?k22 ?a23 ?l23 ?c23 ?k23 ?a24 ?l24 ?c24 ?k24 ?a25 ?l25 ?c25 ?k25 ?a26 ?l26 ?c26 ?k26 ?a27 ?l27 ?c27 ?k27 ?a28 ?l28 ?c28 ?k28 ?a29 ?l29 ?c29 ?k29 ?pg_Lost ?hd_Lost ?po_Lost ?sa_Lost ?mk_Lost ?kc_Lost ?n_Lost_bag ?n_Lost_possible ?n_Lost_starts ?z_len ?z_range ?z_isinstance ?z_str ?z_int ?z_bool ?z_list ?z_dict ?z_tuple ?z_all ?z_any ?z_sum ?z_zip ?z_sorted ?z_max ?z_min ?z_abs ?z_repr ?z_set ?z_enumerate ?u_LETTERS ?u_MAX_LETTERS ?u_MAX_MEMBERS
    (case aC_Lost => k_is)
    (case a1 => k_is)
    (case l1 => k_is)
    (case c1 => k_is)
    (case k1 => k_is)
    (case a2 => k_is)
    (case l2 => k_is)
    (case c2 => k_is)
    (case k2 => k_is)
    (case a3 => k_is)
    (case l3 => k_is)
    (case c3 => k_is)
    (case k3 => k_is)
    (case a4 => k_is)
    (case l4 => k_is)
    (case c4 => k_is)
    (case k4 => k_is)
    (case a5 => k_is)
    (case l5 => k_is)
    (case c5 => k_is)
    (case k5 => k_is)
    (case a6 => k_is)
    (case l6 => k_is)
    (case c6 => k_is)
    (case k6 => k_is)
    (case a7 => k_is)
    (case l7 => k_is)
    (case c7 => k_is)
    (case k7 => k_is)
    (case a8 => k_is)
    (case l8 => k_is)
    (case c8 => k_is)
    (case k8 => k_is)
    (case a9 => k_is)
    (case l9 => k_is)
    (case c9 => k_is)
    (case k9 => k_is)
    (case a10 => k_is)
    (case l10 => k_is)
    (case c10 => k_is)
    (case k10 => k_is)
    (case a11 => k_is)
    (case l11 => k_is)
    (case c11 => k_is)
    (case k11 => k_is)
    (case a12 => k_is)
    (case l12 => k_is)
    (case c12 => k_is)
    (case k12 => k_is)
    (case a13 => k_is)
    (case l13 => k_is)
    (case c13 => k_is)
    (case k13 => k_is)
    (case a14 => k_is)
    (case l14 => k_is)
    (case c14 => k_is)
    (case k14 => k_is)
    (case a15 => k_is)
    (case l15 => k_is)
    (case c15 => k_is)
    (case k15 => k_is)
    (case a16 => k_is)
    (case i16 => k_is)
    (case l16 => k_is)
    (case c16 => k_is)
    (case k16 => k_is)
    (case a17 => k_is)
    (case i17 => k_is)
    (case l17 => k_is)
    (case c17 => k_is)
    (case k17 => k_is)
    (case a18 => k_is)
    (case i18 => k_is)
    (case l18 => k_is)
    (case c18 => k_is)
    (case k18 => k_is)
    (case a19 => k_is)
    (case i19 => k_is)
    (case l19 => k_is)
    (case c19 => k_is)
    (case k19 => k_is)
    (case a20 => k_is)
    (case i20 => k_is)
    (case l20 => k_is)
    (case c20 => k_is)
    (case k20 => k_is)
    (case a21 => k_is)
    (case i21 => k_is)
    (case l21 => k_is)
    (case c21 => k_is)
    (case k21 => k_is)
    (case a22 => k_is)
    (case i22 => k_is)
    (case l22 => k_is)
    (case c22 => k_is)
    (case k22 => k_is)
    (case a23 => k_is)
    (case l23 => k_is)
    (case c23 => k_is)
    (case k23 => k_is)
    (case a24 => k_is)
    (case l24 => k_is)
    (case c24 => k_is)
    (case k24 => k_is)
    (case a25 => k_is)
    (case l25 => k_is)
    (case c25 => k_is)
    (case k25 => k_is)
    (case a26 => k_is)
    (case l26 => k_is)
    (case c26 => k_is)
    (case k26 => k_is)
    (case a27 => k_is)
    (case l27 => k_is)
    (case c27 => k_is)
    (case k27 => k_is)
    (case a28 => k_is)
    (case l28 => k_is)
    (case c28 => k_is)
    (case k28 => k_is)
    (case a29 => k_is)
    (case l29 => k_is)
    (case c29 => k_is)
    (case k29 => k_is)
    (case pg_Lost => k_is)
    (case hd_Lost => k_is)
    (case po_Lost => k_is)
    (case sa_Lost => k_is)
    (case mk_Lost => k_is)
    (case kc_Lost => k_is)
    (case n_Lost_bag => k_is)
    (case n_Lost_possible => k_is)
    (case n_Lost_starts => k_is)
    (case z_len => k_is)
    (case z_range => k_is)
    (case z_isinstance => k_is)
    (case z_str => k_is)
    (case z_int => k_is)
    (case z_bool => k_is)
    (case z_list => k_is)
    (case z_dict => k_is)
    (case z_tuple => k_is)
    (case z_all => k_is)
    (case z_any => k_is)
    (case z_sum => k_is)
    (case z_zip => k_is)
    (case z_sorted => k_is)
    (case z_max => k_is)
    (case z_min => k_is)
    (case z_abs => k_is)
    (case z_repr => k_is)
    (case z_set => k_is)
    (case z_enumerate => k_is)
    (case u_LETTERS => k_is)
    (case u_MAX_LETTERS => k_is)
    (case u_MAX_MEMBERS => k_is)
#print axioms PySem.Challenge.cw_gotfrom_k43_whole_great_lost_lists_holds
end
