import PyProof.Rows.All
import Wide.All
import OpenK.AllK
import Wide.FinOn
import HandS.ForMost
import HandS.TupLe
import KE.KeyNested
import KE.LtSeq
import HandS.TupSets
import PyProof.TupleOfSeq
import HandS.Property
import HandS.IsInst
import HandS.Zip
import HandS.TupAny
import HandS.Codes
import KE.GoesMore
import KE.KDictKeyed
import KE.KDictOf
import HandS.DictComp
import PySem.Challenge.RW_grantsgrow_k41_whole_order_of_roles
import HandS.Defaults
import HandS.Walk
import HandS.WideBits
set_option Elab.async false
set_option linter.all false
set_option maxRecDepth 100000
/-! The plain law: who lies within whom, over plain data. No program in sight. -/
namespace G53

abbrev Role := Nat × Nat
inductive Body where
  | own (o : Nat)
  | rol (r : Role)
  | bth (r s : Role)
  deriving DecidableEq
abbrev Grant := Role × Body
/-- a plain setting: owners, labels, grants, fixed roles, kept roles -/
structure Stg where
  n : Nat
  l : Nat
  gs : List Grant
  fx : List Role
  kp : List Role

/-- held by a body, where P tells what is held -/
def byB (o : Nat) (P : Role → Prop) : Body → Prop
  | .own p => p = o
  | .rol r => P r
  | .bth r s => P r ∧ P s
theorem byB_mono {o : Nat} {P Q : Role → Prop} (h : ∀ r, P r → Q r) : ∀ {b : Body}, byB o P b → byB o Q b
  | .own _, e => e
  | .rol _, e => h _ e
  | .bth _ _, e => ⟨h _ e.1, h _ e.2⟩
def bodyRoles : Body → List Role
  | .own _ => []
  | .rol r => [r]
  | .bth r s => [r, s]
def rolesIn (g : Grant) : List Role := g.1 :: bodyRoles g.2
/-- the role stands in a grant -/
def Told (S : Stg) (r : Role) : Prop := ∃ g ∈ S.gs, r ∈ rolesIn g

/-- held by o in the greatest state -/
inductive Gr (S : Stg) (o : Nat) : Role → Prop
  | free {r} : r ∉ S.fx → Gr S o r
  | own {r} : (r, Body.own o) ∈ S.gs → r ∈ S.fx → Gr S o r
  | rol {r s} : (r, Body.rol s) ∈ S.gs → r ∈ S.fx → Gr S o s → Gr S o r
  | bth {r s t} : (r, Body.bth s t) ∈ S.gs → r ∈ S.fx → Gr S o s → Gr S o t → Gr S o r
theorem Gr.by {S : Stg} {o : Nat} {r : Role} : ∀ {b : Body}, (r, b) ∈ S.gs → r ∈ S.fx → byB o (Gr S o) b → Gr S o r
  | .own p, h, f, e => by
    obtain rfl : p = o := e
    exact .own h f
  | .rol _, h, f, e => .rol h f e
  | .bth _ _, h, f, e => .bth h f e.1 e.2

/-- what o can come to hold among some roles -/
inductive Der (S : Stg) (o : Nat) (W : List Role) : Role → Prop
  | free {r} : r ∈ W → r ∉ S.fx → Der S o W r
  | own {r} : (r, Body.own o) ∈ S.gs → r ∈ W → Der S o W r
  | rol {r s} : (r, Body.rol s) ∈ S.gs → r ∈ W → Der S o W s → Der S o W r
  | bth {r s t} : (r, Body.bth s t) ∈ S.gs → r ∈ W → Der S o W s → Der S o W t → Der S o W r
theorem Der.by {S : Stg} {o : Nat} {W : List Role} {r : Role} : ∀ {b : Body}, (r, b) ∈ S.gs → r ∈ W → byB o (Der S o W) b → Der S o W r
  | .own p, h, f, e => by
    obtain rfl : p = o := e
    exact .own h f
  | .rol _, h, f, e => .rol h f e
  | .bth _ _, h, f, e => .bth h f e.1 e.2
/-- a set that holds what is free and follows the grants holds what can be derived -/
theorem Der.least {S : Stg} {o : Nat} {W : List Role} {P : Role → Prop} (h0 : ∀ r, r ∈ W → r ∉ S.fx → P r) (h1 : ∀ r b, (r, b) ∈ S.gs → r ∈ W → byB o P b → P r) {r : Role} (d : Der S o W r) : P r := by
  induction d with
  | free a b => exact h0 _ a b
  | own a b => exact h1 _ _ a b rfl
  | rol a b _ ih => exact h1 _ _ a b ih
  | bth a b _ _ i1 i2 => exact h1 _ _ a b ⟨i1, i2⟩
theorem Gr.least {S : Stg} {o : Nat} {P : Role → Prop} (h0 : ∀ r, r ∉ S.fx → P r) (h1 : ∀ r b, (r, b) ∈ S.gs → r ∈ S.fx → byB o P b → P r) {r : Role} (d : Gr S o r) : P r := by
  induction d with
  | free a => exact h0 _ a
  | own a b => exact h1 _ _ a b rfl
  | rol a b _ ih => exact h1 _ _ a b ih
  | bth a b _ _ i1 i2 => exact h1 _ _ a b ⟨i1, i2⟩

def Closed (S : Stg) (o : Nat) (W : List Role) : Prop := ∀ r b, (r, b) ∈ S.gs → r ∈ S.kp → byB o (· ∈ W) b → r ∈ W
def Whole (S : Stg) (o : Nat) (W : List Role) : Prop := Closed S o W ∧ ∀ r ∈ W, Der S o W r

/-- all rows of some roles, as the program makes them -/
def subs (l : List Role) : List (List Role) := l.foldl (fun f r => f ++ f.map (· ++ [r])) [[]]
theorem subs_snoc (l : List Role) (r : Role) : subs (l ++ [r]) = subs l ++ (subs l).map (· ++ [r]) := by
  unfold subs
  rw [List.foldl_append]
  rfl
theorem snoc_ind {α : Type} {P : List α → Prop} (h0 : P []) (h1 : ∀ l x, P l → P (l ++ [x])) : ∀ l, P l := by
  have key : ∀ n, ∀ l : List α, l.length = n → P l := by
    intro n
    induction n with
    | zero =>
      intro l e
      rw [List.length_eq_zero_iff.mp e]
      exact h0
    | succ n ih =>
      intro l e
      have hne : l ≠ [] := by
        intro z
        rw [z] at e
        cases e
      rw [← List.dropLast_concat_getLast hne]
      exact h1 _ _ (ih _ (by rw [List.length_dropLast, e]; rfl))
  exact fun l => key _ l rfl
theorem subs_sub : ∀ l W, W ∈ subs l → W.Sublist l := by
  intro l
  refine snoc_ind (P := fun l => ∀ W, W ∈ subs l → W.Sublist l) ?_ ?_ l
  · intro W h
    have e : W = [] := by simpa [subs] using h
    subst e
    exact List.Sublist.refl _
  · intro l r ih W h
    rw [subs_snoc] at h
    rcases List.mem_append.mp h with h | h
    · exact (ih W h).trans (List.sublist_append_left _ _)
    · obtain ⟨V, hV, rfl⟩ := List.mem_map.mp h
      exact (ih V hV).append (List.Sublist.refl _)
theorem subs_of : ∀ l W, W.Sublist l → W ∈ subs l := by
  intro l
  refine snoc_ind (P := fun l => ∀ W, W.Sublist l → W ∈ subs l) ?_ ?_ l
  · intro W h
    rw [List.sublist_nil.mp h]
    simp [subs]
  · intro l r ih W h
    rw [subs_snoc]
    obtain ⟨W1, W2, rfl, h1, h2⟩ := List.sublist_append_iff.mp h
    cases h2 with
    | cons _ h3 =>
      rw [List.sublist_nil.mp h3, List.append_nil]
      exact List.mem_append_left _ (ih _ h1)
    | cons_cons _ h3 =>
      rw [List.sublist_nil.mp h3]
      exact List.mem_append_right _ (List.mem_map.mpr ⟨W1, ih _ h1, rfl⟩)
theorem subs_len : ∀ l : List Role, (subs l).length = 2 ^ l.length := by
  refine snoc_ind ?_ ?_
  · rfl
  · intro l r ih
    rw [subs_snoc, List.length_append, List.length_map, ih, List.length_append]
    show 2 ^ l.length + 2 ^ l.length = 2 ^ (l.length + 1)
    rw [Nat.pow_succ]
    omega

/-- o shows a without b: T the told roles in order -/
def Bad (S : Stg) (T : List Role) (a b : Role) (o : Nat) : Prop := ∃ W, W.Sublist T ∧ Whole S o W ∧ (a ∈ W ∨ (a ∉ T ∧ a ∉ S.fx)) ∧ b ∉ W
/-- a lies within b -/
def Inner (S : Stg) (T : List Role) (a b : Role) : Prop := a = b ∨ ∀ o, o ≤ S.n → ¬ Bad S T a b o
/-- as the program finds it -/
def Shows (S : Stg) (T : List Role) (some value : List Role) (o : Nat) : Prop :=
  ∃ W M, W ∈ subs T ∧ Whole S o W ∧ M ∈ subs (some.filter fun r => decide (r ∉ T) && decide (r ∉ S.fx)) ∧ some.filter (fun r => decide (r ∈ W ∨ r ∈ M)) = value

theorem filter2 {p : Role → Bool} {x y a : Role} (h : x ≠ y) : [x, y].filter p = [a] ↔ (p x = true ∧ p y = false ∧ a = x) ∨ (p x = false ∧ p y = true ∧ a = y) := by
  cases hx : p x <;> cases hy : p y
  · simp [hx, hy]
  · simp [hx, hy, eq_comm]
  · simp [hx, hy, eq_comm]
  · simp only [List.filter_cons, hx, hy, if_true, List.filter_nil]
    constructor
    · intro e
      injection e with _ e
      cases e
    · rintro (⟨_, q, _⟩ | ⟨q, _⟩) <;> cases q
theorem shows_iff {S : Stg} {T : List Role} {a b : Role} {o : Nat} (hab : a ≠ b) {some : List Role} (hs : some = [a, b] ∨ some = [b, a]) : Shows S T some [a] o ↔ Bad S T a b o := by
  have hf : ∀ p : Role → Bool, some.filter p = [a] ↔ p a = true ∧ p b = false := by
    intro p
    rcases hs with rfl | rfl
    · rw [filter2 hab]
      constructor
      · rintro (⟨h1, h2, _⟩ | ⟨_, _, e⟩)
        · exact ⟨h1, h2⟩
        · exact absurd e hab
      · rintro ⟨h1, h2⟩
        exact .inl ⟨h1, h2, rfl⟩
    · rw [filter2 (Ne.symm hab)]
      constructor
      · rintro (⟨_, _, e⟩ | ⟨h1, h2, _⟩)
        · exact absurd e hab
        · exact ⟨h2, h1⟩
      · rintro ⟨h1, h2⟩
        exact .inr ⟨h2, h1, rfl⟩
  have ha : a ∈ some := by rcases hs with rfl | rfl <;> simp
  constructor
  · rintro ⟨W, M, hW, hw, hM, e⟩
    rw [hf, decide_eq_true_eq, decide_eq_false_iff_not, not_or] at e
    refine ⟨W, subs_sub _ _ hW, hw, ?_, e.2.1⟩
    rcases e.1 with h | h
    · exact .inl h
    · have q := List.mem_filter.mp ((subs_sub _ _ hM).subset h)
      rw [Bool.and_eq_true, decide_eq_true_eq, decide_eq_true_eq] at q
      exact .inr q.2
  · rintro ⟨W, hW, hw, h, hb⟩
    by_cases haW : a ∈ W
    · refine ⟨W, [], subs_of _ _ hW, hw, subs_of _ _ (List.nil_sublist _), ?_⟩
      rw [hf, decide_eq_true_eq, decide_eq_false_iff_not, not_or]
      exact ⟨.inl haW, hb, by simp⟩
    · obtain ⟨h1, h2⟩ := h.resolve_left haW
      refine ⟨W, [a], subs_of _ _ hW, hw, subs_of _ _ ?_, ?_⟩
      · refine List.singleton_sublist.mpr (List.mem_filter.mpr ⟨ha, ?_⟩)
        rw [Bool.and_eq_true, decide_eq_true_eq, decide_eq_true_eq]
        exact ⟨h1, h2⟩
      · rw [hf, decide_eq_true_eq, decide_eq_false_iff_not, not_or]
        exact ⟨.inr (by simp), hb, by simp [Ne.symm hab]⟩

theorem Inner.refl (S : Stg) (T : List Role) (a : Role) : Inner S T a a := .inl rfl
theorem Inner.trans {S : Stg} {T : List Role} {a b c : Role} (h1 : Inner S T a b) (h2 : Inner S T b c) : Inner S T a c := by
  rcases h1 with rfl | h1
  · exact h2
  · rcases h2 with rfl | h2
    · exact .inr h1
    · refine .inr fun o ho ⟨W, hW, hw, ha, hc⟩ => ?_
      by_cases hb : b ∈ W
      · exact h2 o ho ⟨W, hW, hw, .inl hb, hc⟩
      · exact h1 o ho ⟨W, hW, hw, ha, hb⟩
theorem Der.gr {S : Stg} {o : Nat} {W : List Role} {r : Role} (d : Der S o W r) : Gr S o r := by
  have q : ∀ r b, (r, b) ∈ S.gs → byB o (Gr S o) b → Gr S o r := fun r b h e => by
    by_cases hf : r ∈ S.fx
    · exact Gr.by h hf e
    · exact .free hf
  exact d.least (fun r _ hf => .free hf) fun r b h _ e => q r b h e
/-- what nobody may ever hold lies within all -/
theorem inner_of_empty {S : Stg} {T : List Role} {a b : Role} (h : ∀ o, o ≤ S.n → ¬ Gr S o a) : Inner S T a b := by
  refine .inr fun o ho ⟨W, hW, hw, ha, _⟩ => ?_
  rcases ha with ha | ⟨_, ha⟩
  · exact h o ho (hw.2 a ha).gr
  · exact h o ho (.free ha)
/-- a kept grant to the holders of b -/
theorem inner_of_kept {S : Stg} {T : List Role} (hT : ∀ r, r ∈ T ↔ Told S r) {r b : Role} (hg : (r, Body.rol b) ∈ S.gs) (hk : r ∈ S.kp) : Inner S T b r := by
  refine .inr fun o ho ⟨W, hW, hw, ha, hr⟩ => ?_
  have hb : b ∈ T := (hT b).mpr ⟨_, hg, by simp [rolesIn, bodyRoles]⟩
  rcases ha with ha | ⟨ha, _⟩
  · exact hr (hw.1 _ _ hg hk ha)
  · exact ha hb
theorem told_head {S : Stg} {r : Role} {b : Body} (h : (r, b) ∈ S.gs) : Told S r := ⟨_, h, by simp [rolesIn]⟩
open Classical in
/-- what o holds in the greatest state is a whole -/
theorem whole_gr {S : Stg} {T : List Role} (hT : ∀ r, r ∈ T ↔ Told S r) (o : Nat) : Whole S o (T.filter fun r => decide (Gr S o r)) := by
  have hm : ∀ r, r ∈ T.filter (fun r => decide (Gr S o r)) ↔ Told S r ∧ Gr S o r := fun r => by
    rw [List.mem_filter, decide_eq_true_eq, hT]
  refine ⟨fun r b hg _ hb => (hm r).mpr ⟨told_head hg, ?_⟩, fun r hr => ?_⟩
  · by_cases hf : r ∈ S.fx
    · exact Gr.by hg hf (byB_mono (fun s hs => ((hm s).mp hs).2) hb)
    · exact .free hf
  · obtain ⟨ht, hgr⟩ := (hm r).mp hr
    have key : ∀ r, Gr S o r → Told S r → Der S o (T.filter fun r => decide (Gr S o r)) r := by
      intro r h
      induction h with
      | @free r hf => exact fun ht => .free ((hm r).mpr ⟨ht, .free hf⟩) hf
      | @own r hg hf => exact fun ht => .own hg ((hm r).mpr ⟨ht, .own hg hf⟩)
      | @rol r s hg hf hs ih => exact fun ht => .rol hg ((hm r).mpr ⟨ht, .rol hg hf hs⟩) (ih ⟨_, hg, by simp [rolesIn, bodyRoles]⟩)
      | @bth r s t hg hf hs ht' ih1 ih2 => exact fun ht => .bth hg ((hm r).mpr ⟨ht, .bth hg hf hs ht'⟩) (ih1 ⟨_, hg, by simp [rolesIn, bodyRoles]⟩) (ih2 ⟨_, hg, by simp [rolesIn, bodyRoles]⟩)
    exact key r hgr ht
open Classical in
/-- of two roles that are apart, one within the other, the one is empty -/
theorem empty_of_apart {S : Stg} {T : List Role} (hT : ∀ r, r ∈ T ↔ Told S r) {a b : Role} (hab : a ≠ b) (hi : Inner S T a b) (hap : ∀ o, o ≤ S.n → ¬ (Gr S o a ∧ Gr S o b)) : ∀ o, o ≤ S.n → ¬ Gr S o a := by
  intro o ho ha
  rcases hi with e | hi
  · exact hab e
  · refine hi o ho ⟨T.filter fun r => decide (Gr S o r), List.filter_sublist, whole_gr hT o, ?_, fun hb => ?_⟩
    · by_cases ht : a ∈ T
      · exact .inl (List.mem_filter.mpr ⟨ht, decide_eq_true ha⟩)
      · refine .inr ⟨ht, ?_⟩
        have nt : ¬ Told S a := fun z => ht ((hT a).mpr z)
        cases ha with
        | free hf => exact hf
        | own hg _ => exact absurd (told_head hg) nt
        | rol hg _ _ => exact absurd (told_head hg) nt
        | bth hg _ _ _ => exact absurd (told_head hg) nt
    · have q := List.mem_filter.mp hb
      rw [decide_eq_true_eq] at q
      exact hap o ho ⟨ha, q.2⟩
end G53

/-! Data of any depth (numbers, texts, tuples of such) over the abstract heap, and ==, in, not in on it. -/
namespace G53
open PySem PySem.Spec PyProof.Rows L2 PySem.SeqAt

abbrev NK := NestedKey
mutual
/-- the value is this datum in the heap -/
inductive DV (H : Hp) : NK → V → Prop
  | num (i : Int) : DV H (.num i) (.int i)
  | text (x : Str) : DV H (.text x) (.str x)
  | tup {a : Addr} {ks : List NK} {vs : List V} : H a = some (.tup vs) → DVs H ks vs → DV H (.tup ks) (.ref a)
/-- item by item -/
inductive DVs (H : Hp) : List NK → List V → Prop
  | nil : DVs H [] []
  | cons {k : NK} {v : V} {ks : List NK} {vs : List V} : DV H k v → DVs H ks vs → DVs H (k :: ks) (v :: vs)
end
/-- all tuples stay -/
def Tk (H H' : Hp) : Prop := ∀ b xs, H b = some (.tup xs) → H' b = some (.tup xs)
theorem Tk.refl (H : Hp) : Tk H H := fun _ _ e => e
theorem Tk.trans {H H1 H2 : Hp} (a : Tk H H1) (b : Tk H1 H2) : Tk H H2 := fun c xs e => b c xs (a c xs e)
theorem Tk.of_same {H H' : Hp} (s : Same H H') : Tk H H' := fun b xs e => s b _ e
theorem Tk.new {H H' : Hp} {p : Addr} {o : HO} (s : Tk H H') (h : H' p = none) : Tk H (upd H' p o) := fun b xs e => by
  rw [upd_ne (ne_of_none (s b xs e) h)]
  exact s b xs e
theorem Same.new {H H' : Hp} {p : Addr} {o : HO} (s : Same H H') (h : H' p = none) : Same H (upd H' p o) := fun b u e => by
  rw [upd_ne (ne_of_none (s b u e) h)]
  exact s b u e
theorem Same.up {H H' : Hp} {p : Addr} {o : HO} (s : Same H H') (h : H p = none) : Same H (upd H' p o) := fun b u e => by
  rw [upd_ne (ne_of_none e h)]
  exact s b u e
mutual
theorem DV.mono {H H' : Hp} (t : Tk H H') : ∀ {k : NK} {v : V}, DV H k v → DV H' k v
  | .num i, _, h => by cases h; exact .num i
  | .text x, _, h => by cases h; exact .text x
  | .tup ks, _, h => by
    cases h with
    | tup e d => exact .tup (t _ _ e) (DVs.mono t d)
  | .none, _, h => nomatch h
theorem DVs.mono {H H' : Hp} (t : Tk H H') : ∀ {ks : List NK} {vs : List V}, DVs H ks vs → DVs H' ks vs
  | [], _, h => by cases h; exact .nil
  | k :: ks, _, h => by
    cases h with
    | cons d ds => exact .cons (DV.mono t d) (DVs.mono t ds)
end
mutual
theorem DV.inj {H : Hp} : ∀ {k k' : NK} {v : V}, DV H k v → DV H k' v → k = k'
  | .num i, _, _, h, h' => by cases h; cases h'; rfl
  | .text x, _, _, h, h' => by cases h; cases h'; rfl
  | .tup ks, _, _, h, h' => by
    cases h with
    | tup e d =>
      cases h' with
      | tup e' d' =>
        rw [e] at e'
        cases e'
        rw [DVs.inj d d']
  | .none, _, _, h, _ => nomatch h
theorem DVs.inj {H : Hp} : ∀ {ks ks' : List NK} {vs : List V}, DVs H ks vs → DVs H ks' vs → ks = ks'
  | [], _, _, h, h' => by cases h; cases h'; rfl
  | k :: ks, _, _, h, h' => by
    cases h with
    | cons d ds =>
      cases h' with
      | cons d' ds' => rw [DV.inj d d', DVs.inj ds ds']
end
theorem DVs.len {H : Hp} : ∀ {ks : List NK} {vs : List V}, DVs H ks vs → ks.length = vs.length
  | [], _, h => by cases h; rfl
  | _ :: _, _, h => by
    cases h with
    | cons _ ds => rw [List.length_cons, List.length_cons, DVs.len ds]
theorem DVs.get {H : Hp} : ∀ {ks : List NK} {vs : List V} {i : Nat} {v : V}, DVs H ks vs → vs[i]? = some v → ∃ k, ks[i]? = some k ∧ DV H k v
  | [], _, i, v, h, e => by cases h; simp at e
  | k :: ks, _, i, v, h, e => by
    cases h with
    | cons d ds =>
      cases i with
      | zero =>
        rw [List.getElem?_cons_zero] at e ⊢
        cases e
        exact ⟨k, rfl, d⟩
      | succ i =>
        rw [List.getElem?_cons_succ] at e ⊢
        exact DVs.get ds e
theorem DVs.at {H : Hp} : ∀ {ks : List NK} {vs : List V} {i : Nat} {k : NK}, DVs H ks vs → ks[i]? = some k → ∃ v, vs[i]? = some v ∧ DV H k v
  | [], _, i, v, h, e => by simp at e
  | k :: ks, _, i, v, h, e => by
    cases h with
    | cons d ds =>
      cases i with
      | zero =>
        rw [List.getElem?_cons_zero] at e ⊢
        cases e
        exact ⟨_, rfl, d⟩
      | succ i =>
        rw [List.getElem?_cons_succ] at e ⊢
        exact DVs.at ds e
theorem DVs.app {H : Hp} : ∀ {ks ls : List NK} {vs ws : List V}, DVs H ks vs → DVs H ls ws → DVs H (ks ++ ls) (vs ++ ws)
  | [], _, _, _, h, h' => by cases h; exact h'
  | _ :: _, _, _, _, h, h' => by
    cases h with
    | cons d ds => exact .cons d (DVs.app ds h')
theorem DVs.one {H : Hp} {k : NK} {v : V} (d : DV H k v) : DVs H [k] [v] := .cons d .nil
theorem DVs.snoc {H : Hp} {ks : List NK} {vs : List V} {k : NK} {v : V} (h : DVs H ks vs) (d : DV H k v) : DVs H (ks ++ [k]) (vs ++ [v]) := h.app (.one d)
theorem DVs.drop {H : Hp} : ∀ {ks : List NK} {vs : List V} (n : Nat), DVs H ks vs → DVs H (ks.drop n) (vs.drop n)
  | _, _, 0, h => h
  | [], _, n + 1, h => by cases h; exact .nil
  | _ :: _, _, n + 1, h => by
    cases h with
    | cons _ ds => exact DVs.drop n ds
theorem DVs.take {H : Hp} : ∀ {ks : List NK} {vs : List V} (n : Nat), DVs H ks vs → DVs H (ks.take n) (vs.take n)
  | _, _, 0, h => .nil
  | [], _, n + 1, h => by cases h; exact .nil
  | _ :: _, _, n + 1, h => by
    cases h with
    | cons d ds => exact .cons d (DVs.take n ds)
theorem DVs.flat {H : Hp} : ∀ {ks : List NK} {vs : List V} {k : NK}, DVs H ks vs → k ∈ ks → ∃ v, v ∈ vs ∧ DV H k v := by
  intro ks vs k h hk
  obtain ⟨i, hi⟩ := List.mem_iff_getElem?.mp hk
  obtain ⟨v, hv, d⟩ := h.at hi
  exact ⟨v, List.mem_of_getElem? hv, d⟩

mutual
/-- in the heap itself -/
inductive RK (h : Heap) : NK → Value → Prop
  | int (i t) : RK h (.num i) (.int i t)
  | text (x t) : RK h (.text x) (.str x t)
  | tup {a o vs n ks} : h.get? a = some o → o.cls = .type "tuple" → o.data = .seq vs n → RKs h ks vs.toList → RK h (.tup ks) (.ref a)
inductive RKs (h : Heap) : List NK → List Value → Prop
  | nil : RKs h [] []
  | cons {k v ks vs} : RK h k v → RKs h ks vs → RKs h (k :: ks) (v :: vs)
end
mutual
theorem RK.nk {h : Heap} : ∀ {k : NK} {u : Value}, RK h k u → NestedIs h k u
  | .num _, _, r => by cases r; exact .int _ _
  | .text _, _, r => by cases r; exact .text _ _
  | .tup ks, _, r => by
    cases r with
    | tup a b c d => exact .tup a b c (RKs.nk d)
  | .none, _, r => nomatch r
theorem RKs.nk {h : Heap} : ∀ {ks : List NK} {us : List Value}, RKs h ks us → NestedAll h ks us
  | [], _, r => by cases r; exact .nil
  | _ :: _, _, r => by
    cases r with
    | cons a b => exact .cons (RK.nk a) (RKs.nk b)
end
mutual
theorem RK.keep {h h' : Heap} (t : ∀ b o, h.get? b = some o → o.cls = .type "tuple" → h'.get? b = some o) : ∀ {k : NK} {u : Value}, RK h k u → RK h' k u
  | .num _, _, r => by cases r; exact .int _ _
  | .text _, _, r => by cases r; exact .text _ _
  | .tup ks, _, r => by
    cases r with
    | tup a b c d => exact .tup (t _ _ a b) b c (RKs.keep t d)
  | .none, _, r => nomatch r
theorem RKs.keep {h h' : Heap} (t : ∀ b o, h.get? b = some o → o.cls = .type "tuple" → h'.get? b = some o) : ∀ {ks : List NK} {us : List Value}, RKs h ks us → RKs h' ks us
  | [], _, r => by cases r; exact .nil
  | _ :: _, _, r => by
    cases r with
    | cons a b => exact .cons (RK.keep t a) (RKs.keep t b)
end
section
variable {X : Cx} {pins : List (Addr × Obj)} {σ : L2.St} {H : Hp} {s : Shared}
mutual
theorem DV.rk (I : Inv X pins σ H s) : ∀ {k : NK} {v : V} {u : Value}, DV H k v → RelV v u → RK s.heap k u
  | .num i, _, _, h, r => by
    cases h
    obtain ⟨t, rfl⟩ := r
    exact .int i t
  | .text x, _, _, h, r => by
    cases h
    obtain ⟨t, rfl⟩ := r
    exact .text x t
  | .tup ks, _, _, h, r => by
    cases h with
    | tup e d =>
      cases r
      obtain ⟨_, its, rv, o, ho, hc, n, hd⟩ := I.hok _ _ e
      exact .tup ho hc hd (DVs.rk I d rv)
  | .none, _, _, h, _ => nomatch h
theorem DVs.rk (I : Inv X pins σ H s) : ∀ {ks : List NK} {vs : List V} {us : List Value}, DVs H ks vs → Vals vs us → RKs s.heap ks us
  | [], _, _, h, r => by
    cases h
    cases r
    exact .nil
  | k :: ks, _, _, h, r => by
    cases h with
    | cons d ds =>
      cases r with
      | cons r1 r2 => exact .cons (DV.rk I d r1) (DVs.rk I ds r2)
end
theorem DV.raw (I : Inv X pins σ H s) {k : NK} {v : V} {u : Value} (d : DV H k v) (r : RelV v u) : NestedIs s.heap k u := (d.rk I r).nk
theorem DVs.raw (I : Inv X pins σ H s) {ks : List NK} {vs : List V} {us : List Value} (d : DVs H ks vs) (r : Vals vs us) : NestedAll s.heap ks us := (d.rk I r).nk
end

/-! ### == of two tuples -/
theorem rc_tups {A : Around} {s : Shared} {xs ys : List NK} {l b : Addr} (hx : NestedIs s.heap (.tup xs) (.ref l)) (hy : NestedIs s.heap (.tup ys) (.ref b)) (hu : A.units + 1 + min (NestedKey.depthAll xs) (NestedKey.depthAll ys) < cLine) :
    RcAt A s (.ref l) (.ref b) (decide (xs = ys)) := by
  cases hx with
  | @tup _ o vs n _ e1 e2 e3 e4 =>
    cases hy with
    | @tup _ o' ws m _ q1 q2 q3 q4 =>
      have z1 : vs.size = xs.length := by simpa using NestedAll.length _ _ e4
      have z2 : ws.size = ys.length := by simpa using NestedAll.length _ _ q4
      have dq : decide (xs = ys) = NestedKey.beqAll xs ys := by
        cases hb : NestedKey.beqAll xs ys with
        | true => exact decide_eq_true (NestedKey.eq_of_beqAll _ _ hb)
        | false =>
          refine decide_eq_false fun e => ?_
          rw [e, NestedKey.beqAll_self] at hb
          cases hb
      rw [dq, ← beqAll_eq, ← z1, ← z2]
      refine RcAt.tuples ⟨_, e1, e2, _, e3⟩ ⟨_, q1, q2, _, q3⟩ (by omega) fun j j1 j2 => ?_
      have z := eqAt_keys xs ys A.in1 s vs.toList ws.toList e4 q4 (by rw [Around.in1_units]; exact hu) j (by simpa using j1) (by simpa using j2)
      simpa using z
section
variable {X : Cx}
/-- x == y of two tuples of data -/
def rEqN : R2 := fun x y H Q => ∃ a b : List NK, DV H (.tup a) x ∧ DV H (.tup b) y ∧ (NestedKey.tup a).depth ≤ 8 ∧ Q (.bl (decide (a = b))) H
theorem op_eqN (hu : X.A.units + 64 < cLine) : OpR X (compareOp .Eq) rEqN := by
  intro pins s σ H x y v u Q I rx ry h
  obtain ⟨a, b, da, db, hz, q⟩ := h
  have na := da.raw I rx
  have nb := db.raw I ry
  obtain ⟨l, rfl⟩ : ∃ l, v = .ref l := by cases na; exact ⟨_, rfl⟩
  obtain ⟨l', rfl⟩ : ∃ l, u = .ref l := by cases nb; exact ⟨_, rfl⟩
  have hd : NestedKey.depthAll a + 1 ≤ 8 := by simpa only [NestedKey.depth] using hz
  have r : wpAny (model X.prog X.w) X.A (richCompare .Eq (.ref l) (.ref l')) (EP X pins σ Q) X.xe s := rc_tups na nb (by omega) X.prog X.w X.xe (EP X pins σ Q) ⟨.bl _, H, I, rfl, q⟩
  exact r
/-- k in a list or tuple of data -/
def rInN (K : PySem.W.Frag) (neg : Bool) : R2 := fun x y H Q => ∃ (k : NK) (ks : List NK) (a : Addr) (vs : List V), DV H k x ∧ y = .ref a ∧ (SqL K H a vs ∨ SqT K H a vs) ∧ DVs H ks vs ∧ k.depth ≤ 8 ∧
  Q (.bl (if neg then !decide (k ∈ ks) else decide (k ∈ ks))) H
open Classical in
theorem in_raw {A : Around} {s : Shared} {k : NK} {ks : List NK} {u : Value} {its : List Value} (hk : NestedIs s.heap k u) (hs : NestedAll s.heap ks its) (hd : k.depth ≤ 8) (hu : A.units + 64 < cLine) :
    ∃ e : Value → Bool, (∀ y, y ∈ its.toArray → EqAt A.in1 s y u (e y)) ∧ its.toArray.any e = decide (k ∈ ks) := by
  refine ⟨fun y => decide (NestedIs s.heap k y), fun y hy => ?_, ?_⟩
  · have hy' : y ∈ its := by simpa using hy
    obtain ⟨k', hk', d⟩ : ∃ k', k' ∈ ks ∧ NestedIs s.heap k' y := by
      clear hk hy
      induction its generalizing ks with
      | nil => cases hy'
      | cons z zs ih =>
        cases hs with
        | cons d ds =>
          rcases List.mem_cons.mp hy' with e | hy'
          · exact ⟨_, List.mem_cons_self, e ▸ d⟩
          · obtain ⟨k', hk', d'⟩ := ih ds hy'
            exact ⟨k', List.mem_cons_of_mem _ hk', d'⟩
    have z := eqAt_key k' k A.in1 s y u d hk (by rw [Around.in1_units]; omega)
    refine z.cast ?_
    cases hb : NestedKey.beq k' k with
    | true =>
      have e := NestedKey.eq_of_beq _ _ hb
      subst e
      exact (decide_eq_true d).symm
    | false =>
      refine (decide_eq_false fun q => ?_).symm
      rw [NestedIs.inj _ _ _ d q, NestedKey.beq_self] at hb
      cases hb
  · rw [List.any_toArray]
    clear hk hd
    induction its generalizing ks with
    | nil =>
      cases hs
      simp
    | cons z zs ih =>
      cases hs with
      | @cons k1 _ ks1 _ d ds =>
        rw [List.any_cons, ih ds]
        by_cases e : k = k1
        · subst e
          rw [decide_eq_true d]
          simp
        · have nd : ¬ NestedIs s.heap k z := fun q => e (NestedIs.inj _ _ _ q d)
          rw [decide_eq_false nd, Bool.false_or]
          by_cases h : k ∈ ks1
          · rw [decide_eq_true h, decide_eq_true (List.mem_cons_of_mem _ h)]
          · rw [decide_eq_false h, decide_eq_false]
            intro q
            rcases List.mem_cons.mp q with q | q
            · exact e q
            · exact h q
theorem op_inN (hu : X.A.units + 64 < cLine) : OpR X (compareOp .In) (rInN X.K false) := by
  intro pins s σ H x y v u Q I rx ry h
  obtain ⟨k, ks, a, vs, dk, rfl, hs, ds, hz, q⟩ := h
  cases ry
  have nk := dk.raw I rx
  rcases hs with hs | hs
  · obtain ⟨its, rv, pl, _⟩ := I.list hs
    obtain ⟨e, h1, h2⟩ := in_raw (A := X.A) nk (ds.raw I rv) hz hu
    exact in_listAt e pl.isList h1 ⟨.bl _, H, I, rfl, by rw [h2]; exact q⟩
  · obtain ⟨its, rv, pl, _⟩ := I.tuple hs
    obtain ⟨e, h1, h2⟩ := in_raw (A := X.A) nk (ds.raw I rv) hz hu
    exact in_tupleAt e pl h1 ⟨.bl _, H, I, rfl, by rw [h2]; exact q⟩
theorem op_notInN (hu : X.A.units + 64 < cLine) : OpR X (compareOp .NotIn) (rInN X.K true) := by
  intro pins s σ H x y v u Q I rx ry h
  obtain ⟨k, ks, a, vs, dk, rfl, hs, ds, hz, q⟩ := h
  cases ry
  have nk := dk.raw I rx
  rcases hs with hs | hs
  · obtain ⟨its, rv, pl, _⟩ := I.list hs
    obtain ⟨e, h1, h2⟩ := in_raw (A := X.A) nk (ds.raw I rv) hz hu
    exact notIn_listAt e pl.isList h1 ⟨.bl _, H, I, rfl, by rw [h2]; exact q⟩
  · obtain ⟨its, rv, pl, _⟩ := I.tuple hs
    obtain ⟨e, h1, h2⟩ := in_raw (A := X.A) nk (ds.raw I rv) hz hu
    exact notIn_tupleAt e pl h1 ⟨.bl _, H, I, rfl, by rw [h2]; exact q⟩
end
end G53

/-! The order of data: < and <= of tuples whose first unequal places can be compared (what stands behind them may be of unlike kinds). -/
namespace G53
open PySem PySem.Spec PyProof.Rows L2 PySem.SeqAt
open PySem.AutoSeq1 (wpAny_loadPart')
open PySem.MeetsSeq PySem.MeetsSeq2 PySem.MeetsSeq3

/-- r at the first place where e fails, z where there is none -/
theorem first_at {e r : Nat → Bool} {z : Bool} : ∀ {l : List Nat} {j : Nat} {t : List Nat}, l = j :: t → firstLt e r z l = if e j = true then firstLt e r z t else r j := by
  intro l j t h
  subst h
  rfl
/-- what is asked of the pairs: places are compared as far as all ahead of them are equal -/
structure Pairs (op : CmpOp) (A : Around) (s : Shared) (us vs : Array Value) (e r : Nat → Bool) : Prop where
  eq : ∀ j (h1 : j < us.size) (h2 : j < vs.size), EqAt A.in1 s us[j] vs[j] (e j)
  rc : ∀ j (h1 : j < us.size) (h2 : j < vs.size), (∀ i, i < j → e i = true) → e j = false → Ob.RcOp op A.in1 s us[j] vs[j] (r j)

theorem lt_two (a b : Addr) (us vs : Array Value) (m n : Nat) (da db : Option Addr) (sa sb : Array (Option Value)) (e r : Nat → Bool) :
    Meets (Builtin.«tuple.__lt__» ⟨[.ref a, .ref b], []⟩)
      (fun A R s => s.heap.get? a = some { cls := .type "tuple", dict := da, data := .seq us m, slots := sa } ∧ s.heap.get? b = some { cls := .type "tuple", dict := db, data := .seq vs n, slots := sb } ∧
        Pairs .Lt A s us vs e r ∧ R (.ok (.ret (.bool (firstLt e r (decide (us.size < vs.size)) (List.range (min us.size vs.size)))))) s) :=
  .of_wp fun prog w A R s hyp => by
    obtain ⟨hp, g, d, tk, os⟩ := s
    obtain ⟨ha, hb, pr, fin⟩ := hyp
    have sub := AutoSeq1.sub_tuple_tuple
    have len : (us.toList.zip vs.toList).length = min us.size vs.size := by simp
    wp_walk using wpAny_loadPart' ha, wpAny_loadPart' hb, wpAny_forIn_list _ (fun todo acc s' => acc.1 = none ∧ s' = ⟨hp, g, d, tk, os⟩ ∧ ∃ i, todo = (us.toList.zip vs.toList).drop i ∧ (∀ m, m < i → e m = true) ∧
      R (.ok (.ret (.bool (firstLt e r (decide (us.size < vs.size)) ((List.range (min us.size vs.size)).drop i))))) ⟨hp, g, d, tk, os⟩) _
    case turn =>
      rintro ⟨y, x⟩ todo acc s' ⟨_, rfl, i, hz, he, hR⟩
      have lt : i < (us.toList.zip vs.toList).length := Nat.lt_of_not_le fun h' => by
        rw [List.drop_of_length_le h'] at hz
        cases hz
      have l0 : i < min us.size vs.size := len ▸ lt
      have l1 : i < us.size := by omega
      have l2 : i < vs.size := by omega
      rw [List.drop_eq_getElem_cons lt] at hz
      injection hz with hh ht
      obtain ⟨rfl, rfl⟩ : y = us[i] ∧ x = vs[i] := by simpa using hh
      rw [first_at (show (List.range (min us.size vs.size)).drop i = i :: (List.range (min us.size vs.size)).drop (i + 1) by simp [List.drop_eq_getElem_cons, l0])] at hR
      refine wpAny_bind (pr.eq i l1 l2 prog w _ _ ?_)
      cases hi : e i with
      | true =>
        rw [hi, if_pos rfl] at hR
        wp_walk
        exact ⟨rfl, rfl, i + 1, ht, fun m hm => (Nat.lt_succ_iff_lt_or_eq.mp hm).elim (he m) fun q => q ▸ hi, hR⟩
      | false =>
        rw [hi, if_neg Bool.false_ne_true] at hR
        have hri := pr.rc i l1 l2 he hi prog w
        wp_walk using hri
        exact ⟨_, rfl, by simpa using hR⟩
    case fin =>
      rintro ⟨b1, b2⟩ s' ⟨q, rfl, i, hz, _, hR⟩
      simp only at q
      subst q
      have ge : min us.size vs.size ≤ i := Nat.le_of_not_lt fun h' => by
        rw [List.drop_eq_getElem_cons (len ▸ h')] at hz
        cases hz
      rw [List.drop_of_length_le (by simpa using ge)] at hR
      wp_walk
      exact ⟨_, rfl, by simpa [Builtin.Tuple.tupleCompareSizes, firstLt] using hR⟩
    case h =>
      exact ⟨rfl, rfl, 0, rfl, fun m hm => absurd hm (Nat.not_lt_zero m), by simpa using fin⟩
theorem le_two (a b : Addr) (us vs : Array Value) (m n : Nat) (da db : Option Addr) (sa sb : Array (Option Value)) (e r : Nat → Bool) :
    Meets (Builtin.«tuple.__le__» ⟨[.ref a, .ref b], []⟩)
      (fun A R s => s.heap.get? a = some { cls := .type "tuple", dict := da, data := .seq us m, slots := sa } ∧ s.heap.get? b = some { cls := .type "tuple", dict := db, data := .seq vs n, slots := sb } ∧
        Pairs .LtE A s us vs e r ∧ R (.ok (.ret (.bool (firstLt e r (decide (us.size ≤ vs.size)) (List.range (min us.size vs.size)))))) s) :=
  .of_wp fun prog w A R s hyp => by
    obtain ⟨hp, g, d, tk, os⟩ := s
    obtain ⟨ha, hb, pr, fin⟩ := hyp
    have sub := AutoSeq1.sub_tuple_tuple
    have len : (us.toList.zip vs.toList).length = min us.size vs.size := by simp
    wp_walk using wpAny_loadPart' ha, wpAny_loadPart' hb, wpAny_forIn_list _ (fun todo acc s' => acc.1 = none ∧ s' = ⟨hp, g, d, tk, os⟩ ∧ ∃ i, todo = (us.toList.zip vs.toList).drop i ∧ (∀ m, m < i → e m = true) ∧
      R (.ok (.ret (.bool (firstLt e r (decide (us.size ≤ vs.size)) ((List.range (min us.size vs.size)).drop i))))) ⟨hp, g, d, tk, os⟩) _
    case turn =>
      rintro ⟨y, x⟩ todo acc s' ⟨_, rfl, i, hz, he, hR⟩
      have lt : i < (us.toList.zip vs.toList).length := Nat.lt_of_not_le fun h' => by
        rw [List.drop_of_length_le h'] at hz
        cases hz
      have l0 : i < min us.size vs.size := len ▸ lt
      have l1 : i < us.size := by omega
      have l2 : i < vs.size := by omega
      rw [List.drop_eq_getElem_cons lt] at hz
      injection hz with hh ht
      obtain ⟨rfl, rfl⟩ : y = us[i] ∧ x = vs[i] := by simpa using hh
      rw [first_at (show (List.range (min us.size vs.size)).drop i = i :: (List.range (min us.size vs.size)).drop (i + 1) by simp [List.drop_eq_getElem_cons, l0])] at hR
      refine wpAny_bind (pr.eq i l1 l2 prog w _ _ ?_)
      cases hi : e i with
      | true =>
        rw [hi, if_pos rfl] at hR
        wp_walk
        exact ⟨rfl, rfl, i + 1, ht, fun m hm => (Nat.lt_succ_iff_lt_or_eq.mp hm).elim (he m) fun q => q ▸ hi, hR⟩
      | false =>
        rw [hi, if_neg Bool.false_ne_true] at hR
        have hri := pr.rc i l1 l2 he hi prog w
        wp_walk using hri
        exact ⟨_, rfl, by simpa using hR⟩
    case fin =>
      rintro ⟨b1, b2⟩ s' ⟨q, rfl, i, hz, _, hR⟩
      simp only at q
      subst q
      have ge : min us.size vs.size ≤ i := Nat.le_of_not_lt fun h' => by
        rw [List.drop_eq_getElem_cons (len ▸ h')] at hz
        cases hz
      rw [List.drop_of_length_le (by simpa using ge)] at hR
      wp_walk
      exact ⟨_, rfl, by simpa [Builtin.Tuple.tupleCompareSizes, firstLt] using hR⟩
    case h =>
      exact ⟨rfl, rfl, 0, rfl, fun m hm => absurd hm (Nat.not_lt_zero m), by simpa using fin⟩
theorem rc_lt {A : Around} {s : Shared} {a b : Addr} {us vs : Array Value} {e r : Nat → Bool} (ha : s.heap.IsTuple a us) (hb : s.heap.IsTuple b vs) (hu : A.units < cLine) (pr : Pairs .Lt A s us vs e r) :
    Ob.RcOp .Lt A s (.ref a) (.ref b) (firstLt e r (decide (us.size < vs.size)) (List.range (min us.size vs.size))) := fun prog w E Q h => by
  obtain ⟨⟨ca, da, ta, sa⟩, ga, xa, m, ya⟩ := id ha
  obtain ⟨⟨cb, db, tb, sb⟩, gb, xb, n, yb⟩ := id hb
  simp only at xa ya xb yb
  subst xa ya xb yb
  exact richCompare_meets_room (op := .Lt) ⟨_, ga, rfl⟩ ⟨_, gb, rfl⟩ F.slot_tuple_lt F.entry_tuple_lt (F.args_tuple_lt_2 _ _) (lt_two a b us vs m n da db sa sb e r) ⟨ga, gb, pr, ⟨(fun x => nomatch x), h⟩⟩ hu
theorem rc_le {A : Around} {s : Shared} {a b : Addr} {us vs : Array Value} {e r : Nat → Bool} (ha : s.heap.IsTuple a us) (hb : s.heap.IsTuple b vs) (hu : A.units < cLine) (pr : Pairs .LtE A s us vs e r) :
    Ob.RcOp .LtE A s (.ref a) (.ref b) (firstLt e r (decide (us.size ≤ vs.size)) (List.range (min us.size vs.size))) := fun prog w E Q h => by
  obtain ⟨⟨ca, da, ta, sa⟩, ga, xa, m, ya⟩ := id ha
  obtain ⟨⟨cb, db, tb, sb⟩, gb, xb, n, yb⟩ := id hb
  simp only at xa ya xb yb
  subst xa ya xb yb
  exact richCompare_meets_room (op := .LtE) ⟨_, ga, rfl⟩ ⟨_, gb, rfl⟩ F.slot_tuple_le F.entry_tuple_le (F.args_tuple_le_2 _ _) (le_two a b us vs m n da db sa sb e r) ⟨ga, gb, pr, ⟨(fun x => nomatch x), h⟩⟩ hu
end G53

/-! Data in order: what < and <= give on data (op false: <, op true: <=). -/
namespace G53
open PySem PySem.Spec PyProof.Rows L2 PySem.SeqAt

def opOf (c : Bool) : CmpOp := if c then .LtE else .Lt
mutual
/-- c false: x < y; c true: x <= y -/
def ordK (c : Bool) : NK → NK → Bool
  | .num a, .num b => if c then decide (a ≤ b) else decide (a < b)
  | .text a, .text b => if c then !decide (b.cps.toList < a.cps.toList) else decide (a.cps.toList < b.cps.toList)
  | .tup a, .tup b => ordKs c a b
  | .none, _ => false
  | .num _, .none => false
  | .num _, .text _ => false
  | .num _, .tup _ => false
  | .text _, .none => false
  | .text _, .num _ => false
  | .text _, .tup _ => false
  | .tup _, .none => false
  | .tup _, .num _ => false
  | .tup _, .text _ => false
def ordKs (c : Bool) : List NK → List NK → Bool
  | [], [] => c
  | [], _ :: _ => true
  | _ :: _, [] => false
  | a :: as, b :: bs => if NestedKey.beq a b = true then ordKs c as bs else ordK c a b
end
mutual
/-- x and y can be compared -/
def cmpK : NK → NK → Bool
  | .num _, .num _ => true
  | .text _, .text _ => true
  | .tup a, .tup b => cmpKs a b
  | .none, _ => false
  | .num _, .none => false
  | .num _, .text _ => false
  | .num _, .tup _ => false
  | .text _, .none => false
  | .text _, .num _ => false
  | .text _, .tup _ => false
  | .tup _, .none => false
  | .tup _, .num _ => false
  | .tup _, .text _ => false
def cmpKs : List NK → List NK → Bool
  | [], [] => true
  | [], _ :: _ => true
  | _ :: _, [] => true
  | a :: as, b :: bs => if NestedKey.beq a b = true then cmpKs as bs else cmpK a b
end
abbrev eAt (xs ys : List NK) (j : Nat) : Bool := keyEqAt xs ys j
abbrev oAt2 (c : Bool) (xs ys : List NK) (j : Nat) : Bool := ordK c (xs.getD j .none) (ys.getD j .none)
theorem firstLt_map {e r : Nat → Bool} {z : Bool} : ∀ l : List Nat, firstLt e r z (l.map (· + 1)) = firstLt (fun j => e (j + 1)) (fun j => r (j + 1)) z l
  | [] => rfl
  | j :: t => by
    rw [List.map_cons, first_at rfl, first_at (l := j :: t) rfl, firstLt_map t]
theorem ordKs_eq (c : Bool) : ∀ xs ys : List NK, firstLt (eAt xs ys) (oAt2 c xs ys) (if c then decide (xs.length ≤ ys.length) else decide (xs.length < ys.length)) (List.range (min xs.length ys.length)) = ordKs c xs ys
  | [], [] => by cases c <;> rfl
  | [], y :: ys => by cases c <;> simp [ordKs, firstLt]
  | x :: xs, [] => by cases c <;> simp [ordKs, firstLt]
  | x :: xs, y :: ys => by
    have ih := ordKs_eq c xs ys
    have e1 : min (x :: xs).length (y :: ys).length = min xs.length ys.length + 1 := by simp only [List.length_cons]; omega
    rw [e1, List.range_succ_eq_map, first_at rfl]
    have e2 : eAt (x :: xs) (y :: ys) 0 = NestedKey.beq x y := rfl
    have e3 : oAt2 c (x :: xs) (y :: ys) 0 = ordK c x y := rfl
    rw [e2, e3, ordKs]
    by_cases h : NestedKey.beq x y = true
    · rw [if_pos h, if_pos h, ← ih]
      have e4 := firstLt_map (e := eAt (x :: xs) (y :: ys)) (r := oAt2 c (x :: xs) (y :: ys)) (z := if c then decide ((x :: xs).length ≤ (y :: ys).length) else decide ((x :: xs).length < (y :: ys).length)) (List.range (min xs.length ys.length))
      refine Eq.trans e4 ?_
      have e5 : (if c then decide ((x :: xs).length ≤ (y :: ys).length) else decide ((x :: xs).length < (y :: ys).length)) = (if c then decide (xs.length ≤ ys.length) else decide (xs.length < ys.length)) := by
        simp only [List.length_cons, Nat.add_le_add_iff_right, Nat.add_lt_add_iff_right]
      rw [e5]
      rfl
    · rw [if_neg h, if_neg h]
theorem cmpKs_at : ∀ {xs ys : List NK}, cmpKs xs ys = true → ∀ j, j < xs.length → j < ys.length → (∀ i, i < j → eAt xs ys i = true) → eAt xs ys j = false → cmpK (xs.getD j .none) (ys.getD j .none) = true
  | [], _, _, j, h1, _, _, _ => absurd h1 (Nat.not_lt_zero _)
  | _ :: _, [], _, j, _, h2, _, _ => absurd h2 (Nat.not_lt_zero _)
  | x :: xs, y :: ys, hc, j, h1, h2, he, hj => by
    rw [cmpKs] at hc
    cases j with
    | zero =>
      have e2 : NestedKey.beq x y = false := hj
      rw [if_neg (by rw [e2]; exact Bool.false_ne_true)] at hc
      exact hc
    | succ j =>
      have e2 : NestedKey.beq x y = true := he 0 (Nat.succ_pos _)
      rw [if_pos e2] at hc
      exact cmpKs_at hc j (Nat.lt_of_succ_lt_succ h1) (Nat.lt_of_succ_lt_succ h2) (fun i hi => he (i + 1) (Nat.succ_lt_succ hi)) hj
theorem rk_get {h : Heap} : ∀ {ks : List NK} {vs : List Value} {j : Nat} (h1 : j < vs.length), RKs h ks vs → RK h (ks.getD j .none) vs[j]
  | [], _, j, h1, r => by cases r; exact absurd h1 (Nat.not_lt_zero _)
  | k :: ks, _, j, h1, r => by
    cases r with
    | cons d ds =>
      cases j with
      | zero => exact d
      | succ j => exact rk_get (Nat.lt_of_succ_lt_succ h1) ds
theorem dAll_get : ∀ {ks : List NK} {j : Nat}, j < ks.length → (ks.getD j .none).depth ≤ NestedKey.depthAll ks
  | [], j, h => absurd h (Nat.not_lt_zero _)
  | k :: ks, j, h => by
    rw [NestedKey.depthAll]
    cases j with
    | zero => exact Nat.le_max_left _ _
    | succ j => exact Nat.le_trans (dAll_get (ks := ks) (Nat.lt_of_succ_lt_succ h)) (Nat.le_max_right _ _)
theorem rks_len {h : Heap} {ks : List NK} {vs : List Value} (r : RKs h ks vs) : vs.length = ks.length := NestedAll.length _ _ r.nk
/-- the comparison of two data -/
theorem ord_key (c : Bool) : ∀ (n : Nat) (x y : NK) (A : Around) (s : Shared) (a b : Value), x.depth ≤ n → RK s.heap x a → RK s.heap y b → cmpK x y = true → A.units + n < cLine → Ob.RcOp (opOf c) A s a b (ordK c x y) := by
  intro n
  induction n with
  | zero =>
    intro x y A s a b hd hx hy hc hu
    cases hx with
    | int i t =>
      cases hy with
      | int j t' =>
        rw [ordK]
        cases c with
        | false => exact fun _ _ _ _ h => PyProof.Rows.lt_int h
        | true => exact fun _ _ _ _ h => PyProof.Rows.le_int h
      | text _ _ => rw [cmpK] at hc; cases hc
      | tup _ _ _ _ => rw [cmpK] at hc; cases hc
    | text i t =>
      cases hy with
      | int _ _ => rw [cmpK] at hc; cases hc
      | text j t' =>
        rw [ordK]
        cases c with
        | false => exact fun _ _ _ _ h => PyProof.Rows.lt_str h
        | true => exact fun _ _ _ _ h => PySem.P.le_str h
      | tup _ _ _ _ => rw [cmpK] at hc; cases hc
    | tup _ _ _ _ =>
      rw [NestedKey.depth] at hd
      omega
  | succ n ih =>
    intro x y A s a b hd hx hy hc hu
    cases hx with
    | int i t =>
      cases hy with
      | int j t' =>
        rw [ordK]
        cases c with
        | false => exact fun _ _ _ _ h => PyProof.Rows.lt_int h
        | true => exact fun _ _ _ _ h => PyProof.Rows.le_int h
      | text _ _ => rw [cmpK] at hc; cases hc
      | tup _ _ _ _ => rw [cmpK] at hc; cases hc
    | text i t =>
      cases hy with
      | int _ _ => rw [cmpK] at hc; cases hc
      | text j t' =>
        rw [ordK]
        cases c with
        | false => exact fun _ _ _ _ h => PyProof.Rows.lt_str h
        | true => exact fun _ _ _ _ h => PySem.P.le_str h
      | tup _ _ _ _ => rw [cmpK] at hc; cases hc
    | @tup l o vs m xs e1 e2 e3 e4 =>
      cases hy with
      | int _ _ => rw [cmpK] at hc; cases hc
      | text _ _ => rw [cmpK] at hc; cases hc
      | @tup l' o' ws m' ys q1 q2 q3 q4 =>
        rw [cmpK] at hc
        rw [NestedKey.depth] at hd
        have z1 : vs.size = xs.length := by simpa using rks_len e4
        have z2 : ws.size = ys.length := by simpa using rks_len q4
        have pr : Pairs (opOf c) A s vs ws (eAt xs ys) (oAt2 c xs ys) := by
          refine ⟨fun j h1 h2 => ?_, fun j h1 h2 he hj => ?_⟩
          · have z := eqAt_keys xs ys A.in1 s vs.toList ws.toList e4.nk q4.nk (by rw [Around.in1_units]; omega) j (by simpa using h1) (by simpa using h2)
            simpa using z
          · have h1' : j < xs.length := by omega
            have h2' : j < ys.length := by omega
            refine ih (xs.getD j .none) (ys.getD j .none) A.in1 s _ _ (by have := dAll_get h1'; omega) ?_ ?_ (cmpKs_at hc j h1' h2' he hj) (by rw [Around.in1_units]; omega)
            · have z := rk_get (j := j) (by simpa using h1) e4
              simpa using z
            · have z := rk_get (j := j) (by simpa using h2) q4
              simpa using z
        have e := ordKs_eq c xs ys
        rw [← z1, ← z2] at e
        rw [ordK, ← e]
        cases c with
        | false => exact rc_lt ⟨_, e1, e2, _, e3⟩ ⟨_, q1, q2, _, q3⟩ (by omega) pr
        | true => exact rc_le ⟨_, e1, e2, _, e3⟩ ⟨_, q1, q2, _, q3⟩ (by omega) pr
section
variable {X : Cx}
/-- x < y, x <= y of two data -/
def rOrd (c : Bool) : R2 := fun x y H Q => ∃ a b : NK, DV H a x ∧ DV H b y ∧ a.depth ≤ 8 ∧ cmpK a b = true ∧ Q (.bl (ordK c a b)) H
theorem op_ltN (hu : X.A.units + 64 < cLine) : OpR X (compareOp .Lt) (rOrd false) := by
  intro pins s σ H x y v u Q I rx ry h
  obtain ⟨a, b, da, db, hz, hc, q⟩ := h
  have r : wpAny (model X.prog X.w) X.A (richCompare .Lt v u) (EP X pins σ Q) X.xe s := ord_key false 8 a b X.A s v u hz (da.rk I rx) (db.rk I ry) hc (by omega) X.prog X.w X.xe (EP X pins σ Q) ⟨.bl _, H, I, rfl, q⟩
  exact r
theorem op_leN (hu : X.A.units + 64 < cLine) : OpR X (compareOp .LtE) (rOrd true) := by
  intro pins s σ H x y v u Q I rx ry h
  obtain ⟨a, b, da, db, hz, hc, q⟩ := h
  have r : wpAny (model X.prog X.w) X.A (richCompare .LtE v u) (EP X pins σ Q) X.xe s := ord_key true 8 a b X.A s v u hz (da.rk I rx) (db.rk I ry) hc (by omega) X.prog X.w X.xe (EP X pins σ Q) ⟨.bl _, H, I, rfl, q⟩
  exact r
end
end G53

/-! sorted(..) of fewer than 64 tuples of data whose order follows a rank. -/
namespace G53
open PySem PySem.Spec PyProof.Rows L2 PySem.SeqAt

theorem RK.inj {h : Heap} {k k' : NK} {u : Value} (a : RK h k u) (b : RK h k' u) : k = k' := NestedIs.inj _ _ _ a.nk b.nk
open Classical in
/-- the datum that a value is -/
noncomputable def keyOf (h : Heap) (v : Value) : NK := if q : ∃ k, RK h k v then q.choose else .none
theorem keyOf_eq {h : Heap} {k : NK} {v : Value} (r : RK h k v) : keyOf h v = k := by
  have q : ∃ k, RK h k v := ⟨k, r⟩
  unfold keyOf
  rw [dif_pos q]
  exact q.choose_spec.inj r

/-- what can be sorted: tuples, not empty, their first items all numbers (c false) or all tuples (c true), their order that of a rank -/
structure Ranked (c : Bool) (rk : NK → Int) (P : NK → Prop) : Prop where
  head : ∀ k, P k → ∃ x xs, k = .tup (x :: xs) ∧ if c = true then ∃ l, x = .tup l else ∃ i, x = .num i
  deep : ∀ k, P k → k.depth ≤ 8
  cmp : ∀ k l, P k → P l → cmpK k l = true ∧ ordK false k l = decide (rk k < rk l)

section
variable {prog : Program} {w : World} {A : Around} {E : Value → Shared → Prop} {s : Shared} {b : Bool} {Q : Bool → Shared → Prop}
theorem one_lt {x y : NK} {u v : Value} {i : Nat} (hx : RK s.heap x u) (hy : RK s.heap y v) (hc : cmpK x y = true) (hd : x.depth ≤ 8) (hu : A.units + 8 < cLine) (hb : b = true → i = 0 → (∃ p, x = .num p) ∧ ∃ q, y = .num q)
    (h : Q (ordK false x y) s) {E' : Value → Shared → Prop} : wpAny (model prog w) A (oneLt' (b && i == 0) u v) Q E' s := by
  cases e : (b && i == 0) with
  | false => exact PySem.W.kat_one _ _ (ord_key false 8 x y A s u v hd hx hy hc hu prog w E' (PySem.W.BoolBack Q) h)
  | true =>
    rw [Bool.and_eq_true, beq_iff_eq] at e
    obtain ⟨⟨p, rfl⟩, ⟨q, rfl⟩⟩ := hb e.1 e.2
    cases hx
    cases hy
    exact TS.oneLt_ints true h
theorem lex_go : ∀ (xs ys : List NK) (us vs : List Value) (i : Nat) (fin : Bool), RKs s.heap xs us → RKs s.heap ys vs → cmpKs xs ys = true → fin = decide (us.length < vs.length) → NestedKey.depthAll xs ≤ 8 → A.units + 8 < cLine →
    (b = true → i = 0 → ∀ x y, xs.head? = some x → ys.head? = some y → (∃ p, x = .num p) ∧ ∃ q, y = .num q) → Q (ordKs false xs ys) s → PySem.W.KatLex prog w A b fin Q (us.zip vs) i s
  | [], [], _, _, i, fin, hx, hy, _, hf, _, _, _, h => by
    cases hx
    cases hy
    rw [hf]
    exact PySem.W.kat_nil h
  | [], _ :: _, _, _, i, fin, hx, hy, _, hf, _, _, _, h => by
    cases hx
    cases hy
    rw [hf]
    exact PySem.W.kat_nil (by simpa [ordKs] using h)
  | _ :: _, [], _, _, i, fin, hx, hy, _, hf, _, _, _, h => by
    cases hx
    cases hy
    rw [hf]
    exact PySem.W.kat_nil (by simpa [ordKs] using h)
  | x :: xs, y :: ys, _, _, i, fin, hx, hy, hc, hf, hd, hu, hb, h => by
    cases hx with
    | @cons _ u _ us d ds =>
      cases hy with
      | @cons _ v _ vs q qs =>
        rw [cmpKs] at hc
        rw [ordKs] at h
        rw [NestedKey.depthAll] at hd
        have hd1 : x.depth ≤ 8 := Nat.le_trans (Nat.le_max_left _ _) hd
        have hd2 : NestedKey.depthAll xs ≤ 8 := Nat.le_trans (Nat.le_max_right _ _) hd
        refine PySem.W.kat_cons (eqAt_key x y A s u v d.nk q.nk (by omega) prog w _ _ ?_)
        cases e : NestedKey.beq x y with
        | true =>
          rw [if_pos e] at hc h
          refine PySem.W.kat_yes (lex_go xs ys us vs (i + 1) fin ds qs hc ?_ hd2 hu (fun _ z => absurd z (Nat.succ_ne_zero i)) h)
          rw [hf]
          simp only [List.length_cons, Nat.add_lt_add_iff_right]
        | false =>
          rw [if_neg (by rw [e]; exact Bool.false_ne_true)] at hc h
          exact PySem.W.kat_no (one_lt d q hc hd1 hu (fun z1 z2 => hb z1 z2 x y rfl rfl) h)
theorem firsts_at {c : Bool} {rk : NK → Int} {P : NK → Prop} (R : Ranked c rk P) : ∀ vs : List Value, (∀ v, v ∈ vs → ∃ k, P k ∧ RK s.heap k v) →
    ∃ fs, PySem.W.KatTups s.heap vs fs ∧ fs.length = vs.length ∧ ∀ f, f ∈ fs → PySem.W.Looks (model prog w) s.heap (typeOf f) (.type (if c = true then "tuple" else "int"))
  | [], _ => ⟨[], PySem.W.KatTups.nil, rfl, fun f hf => absurd hf (by simp)⟩
  | v :: vs, h => by
    obtain ⟨fs, t, hl, hk⟩ := firsts_at R vs fun u hu => h u (List.mem_cons_of_mem _ hu)
    obtain ⟨k, pk, rk⟩ := h v List.mem_cons_self
    obtain ⟨x, xs, rfl, hx⟩ := R.head k pk
    cases rk with
    | @tup a o its n _ e1 e2 e3 e4 =>
      obtain ⟨f, rest, e, rf⟩ : ∃ f rest, its.toList = f :: rest ∧ RK s.heap x f := by
        cases q : its.toList with
        | nil =>
          rw [q] at e4
          cases e4
        | cons f rest =>
          rw [q] at e4
          cases e4 with
          | cons d _ => exact ⟨f, rest, rfl, d⟩
      have e0 : its[0]? = some f := by
        rw [← Array.getElem?_toList, e]
        rfl
      refine ⟨f :: fs, PySem.W.KatTups.cons e1 e2 e3 e0 t, by rw [List.length_cons, List.length_cons, hl], fun g hg => ?_⟩
      rcases List.mem_cons.mp hg with rfl | hg
      · cases c with
        | true =>
          obtain ⟨l, rfl⟩ := hx
          cases rf with
          | @tup a' o' _ _ _ q1 q2 q3 q4 =>
            have z : PySem.W.Looks (model prog w) s.heap (typeOf (.ref a')) o'.cls := (PySem.W.Looks.ld q1).andThen .now
            rw [q2] at z
            exact z
        | false =>
          obtain ⟨i, rfl⟩ := hx
          cases rf
          exact PySem.W.Looks.of_pure rfl
      · exact hk g hg
/-- how the sort compares -/
theorem kind_data {c : Bool} {rk : NK → Int} {P : NK → Prop} (R : Ranked c rk P) {vs : List Value} (h2 : 2 ≤ vs.length) (x : ∀ v, v ∈ vs → ∃ k, P k ∧ RK s.heap k v) (r : Value → Int) (hr : ∀ v, v ∈ vs → ∀ k, RK s.heap k v → r v = rk k) (hu : A.units + 9 < cLine)
    (Q : SortKind → Shared → Prop) (h : ∀ κ, TS.Cmp prog w A s κ (pairsOf vs) r → Q κ s) : wpAny (model prog w) A (keyKind' vs.toArray) Q E s := by
  obtain ⟨fs, t, hl, hk⟩ := firsts_at (prog := prog) (w := w) R vs x
  refine PySem.W.kat_kind t (by omega) hk (by cases c <;> rfl) (h _ ?_)
  intro p q hp hq Q' E' hQ
  rw [PyProof.Rows.pairsOf_toList] at hp hq
  have mp := (PyProof.Rows.mem_zip_self hp).2
  have mq := (PyProof.Rows.mem_zip_self hq).2
  obtain ⟨k, pk, kk⟩ := x _ mp
  obtain ⟨l, pl, ll⟩ := x _ mq
  obtain ⟨h1, h3⟩ := R.cmp k l pk pl
  have hQ' : Q' (ordK false k l) s := by
    rw [h3, ← hr _ mp k kk, ← hr _ mq l ll]
    exact hQ
  obtain ⟨x0, xs, rfl, hx⟩ := R.head k pk
  obtain ⟨y0, ys, rfl, hy⟩ := R.head l pl
  have hd := R.deep _ pk
  rw [NestedKey.depth] at hd
  generalize p.1 = p1 at kk ⊢
  generalize q.1 = q1 at ll ⊢
  cases kk with
  | tup e1 e2 e3 e4 =>
    cases ll with
    | tup f1 f2 f3 f4 =>
      rw [cmpK] at h1
      rw [ordK] at hQ'
      refine PySem.W.kat_lt e1 e3 f1 f3 (lex_go _ _ _ _ 0 _ e4 f4 h1 (by simp) (by omega) (by omega) (fun z _ x y e e' => ?_) hQ')
      rw [List.head?_cons] at e e'
      cases e
      cases e'
      cases c with
      | true => exact absurd z (by decide)
      | false => exact ⟨hx, hy⟩
/-- list.sort -/
theorem sort_data {c : Bool} {rk : NK → Int} {P : NK → Prop} (R : Ranked c rk P) {a : Addr} {vs : List Value} {n : Nat} {F : PySem.Fin → Shared → Prop} (ho : s.heap.get? a = some (seqObj "list" vs.toArray n)) (h64 : vs.length < 64)
    (x : ∀ v, v ∈ vs → ∃ k, P k ∧ RK s.heap k v) (hu : A.units + 9 < cLine)
    (h : ∀ out : Array Value, out.toList.Perm vs → out.toList.Pairwise (fun u v => rk (keyOf s.heap u) ≤ rk (keyOf s.heap v)) → F (.done (.ret .none)) { s with heap := sortedHeap s.heap a vs out }) :
    wpAny (model prog w) A (Builtin.«list.sort» ⟨[.ref a], []⟩) F E s := by
  have keep : ∀ b o, s.heap.get? b = some o → o.cls = .type "tuple" → (TS.midHeap s.heap a vs).get? b = some o := fun b o e hc => by
    refine TS.midHeap_old (fun z => ?_) e
    rw [z, ho] at e
    rw [← Option.some.inj e] at hc
    have hc' : Value.type "list" = Value.type "tuple" := hc
    injection hc' with hc'
    exact absurd hc' (by decide)
  refine SK.plain_sort (r := fun v => rk (keyOf s.heap v)) ho h64 (fun h2 Q hQ => ?_) fun ps out p1 p2 p3 => ?_
  · refine kind_data (s := { s with heap := TS.midHeap s.heap a vs }) R h2 (fun v hv => ?_) _ (fun v hv k kk => ?_) hu Q hQ
    · obtain ⟨k, pk, kk⟩ := x v hv
      exact ⟨k, pk, kk.keep keep⟩
    · obtain ⟨k0, _, k1⟩ := x v hv
      show rk (keyOf s.heap v) = rk k
      rw [keyOf_eq k1, (k1.keep keep).inj kk]
  · obtain ⟨q1, q2⟩ := TS.out_rank (r := fun v => rk (keyOf s.heap v)) p1 p2 p3
    exact h out q1 q2
/-- sorted(..) of what collect gives -/
theorem sorted_data {c : Bool} {rk : NK → Int} {P : NK → Prop} (R : Ranked c rk P) {src : Value} {Pv : List Value → Prop} {Q : Value → Shared → Prop} (hu : A.units + 20 < cLine)
    (hcol : ∀ Q' : List Value → Shared → Prop, (∀ (s1 : Shared) (vs : List Value), (∀ b o, s.heap.get? b = some o → s1.heap.get? b = some o) → s1.gens = s.gens → s1.os = s.os → Pv vs → Q' vs s1) → wpAny (model prog w) A.in1 (collect src) Q' E s)
    (hp : ∀ vs, Pv vs → vs.length < 64 ∧ ∀ v, v ∈ vs → ∃ k, P k ∧ RK s.heap k v)
    (hQ : ∀ (s1 s' : Shared) (p : Addr) (out : Array Value) (m : Nat) (vs : List Value), (∀ b o, s.heap.get? b = some o → s1.heap.get? b = some o) → (∀ b o, s1.heap.get? b = some o → s'.heap.get? b = some o) → s'.gens = s.gens → s'.os = s.os → s1.heap.objs.size ≤ p →
      s'.heap.get? p = some (seqObj "list" out m) → Pv vs → out.toList.Perm vs → out.toList.Pairwise (fun u v => rk (keyOf s.heap u) ≤ rk (keyOf s.heap v)) → Q (.ref p) s') :
    wpAny (model prog w) A (call (.builtin "sorted") [src]) Q E s := by
  refine Calls.call_function_entry kind_sorted plain_sorted entry_sorted (args_sorted1 _) ?_
  unfold Builtin.«sorted»
  refine wpAny_bind (m := checkCount "sorted" 1 1 _) (wpAny_pure ?_)
  refine wpAny_bind (hcol _ fun s1 vs k1 g1 o1 pv => ?_)
  obtain ⟨hv, hk⟩ := hp vs pv
  refine wpAny_bind (wpAny_newList ?_ (by rw [sizeLine_eq]; omega))
  have at1 : (s1.heap.push (seqObj "list" vs.toArray 0)).get? s1.heap.objs.size = some (seqObj "list" vs.toArray 0) := Heap.get?_push_size _ rfl
  have up : ∀ b o, s.heap.get? b = some o → o.cls = .type "tuple" → (s1.heap.push (seqObj "list" vs.toArray 0)).get? b = some o := fun b o e _ => Heap.get?_push_of_some _ (k1 b o e)
  refine wpAny_bind (wpAny_holding (wpAny_call_entry slot_list_sort ⟨_, at1, rfl⟩ entry_list_sort (sort_data (s := { s1 with heap := s1.heap.push (seqObj "list" vs.toArray 0) }) R at1 hv (fun v hv' => ?_) (by
    rw [Around.in1_units, Around.in1_units]
    omega) fun out q1 q2 => ⟨_, rfl, ?_⟩) (args_list_sort _)))
  · obtain ⟨k, pk, kk⟩ := hk v hv'
    exact ⟨k, pk, kk.keep up⟩
  · obtain ⟨m, hm⟩ := sortedHeap_at (out := out) at1
    have q3 : out.toList.Pairwise (fun u v => rk (keyOf s.heap u) ≤ rk (keyOf s.heap v)) := by
      refine List.Pairwise.imp_of_mem (fun {u v} mu mv le => ?_) q2
      obtain ⟨k, pk, kk⟩ := hk u (q1.mem_iff.mp mu)
      obtain ⟨l, pl, ll⟩ := hk v (q1.mem_iff.mp mv)
      have le' : rk (keyOf (s1.heap.push (seqObj "list" vs.toArray 0)) u) ≤ rk (keyOf (s1.heap.push (seqObj "list" vs.toArray 0)) v) := le
      rw [keyOf_eq (kk.keep up), keyOf_eq (ll.keep up)] at le'
      rw [keyOf_eq kk, keyOf_eq ll]
      exact le'
    refine wpAny_pure ⟨_, rfl, hQ s1 _ s1.heap.objs.size out m vs k1 (fun b o z => ?_) g1 o1 (Nat.le_refl _) hm pv q1 q3⟩
    have lt := Heap.lt_size z
    show (sortedHeap (s1.heap.push (seqObj "list" vs.toArray 0)) s1.heap.objs.size vs out).get? b = some o
    rw [sortedHeap_old (Nat.ne_of_lt lt) (by rw [size_push']; exact Nat.lt_succ_of_lt lt)]
    exact Heap.get?_push_of_some _ z
end
end G53

/-! set(xs) of fewer than 64 tuples of data (texts among them: their hashes are the World's), and its walk. -/
namespace G53
open PySem PySem.Spec PyProof.Rows L2

/-- a stored datum: where it stands, what it is -/
abbrev Cel := Addr × NK
abbrev kh (w : World) (k : NK) : Int := k.hash w
abbrev row (w : World) (p : Cel) : Int × Value := (kh w p.2, Value.ref p.1)
/-- it stands there -/
def Here (h : Heap) (p : Cel) : Prop := NestedIs h p.2 (.ref p.1) ∧ p.2.depth ≤ 8
theorem Here.keep {h h' : Heap} {p : Cel} (x : Here h p) (t : ∀ b o vs n, h.get? b = some o → o.data = .seq vs n → h'.get? b = some o) : Here h' p := ⟨NestedIs.at t _ _ x.1, x.2⟩
theorem Here.but {h h' : Heap} {p : Cel} {a : Addr} {o : Obj} {es : Array (Int × Value)} {ep : Nat} {t : SetTable} (x : Here h p) (ho : h.get? a = some o) (hd : o.data = .set es ep t) (sb : Heap.SameBut a h h') : Here h' p :=
  x.keep fun b u vs n e d => (sb.2 b fun z => by
    rw [z, ho] at e
    cases e
    rw [hd] at d
    cases d).trans e

section
variable {P : Program} {w : World} {A : Around} {E : Value → Shared → Prop} {s : Shared}
/-- no class statement is asked for data -/
theorem plain_cls : ∀ (n : Nat) (k : NK) (v : Value) {Q : Bool → Shared → Prop}, NestedIs s.heap k v → k.depth ≤ n → Q false s → wpAny (model P w) A (ofAClassStatement n v) Q E s := by
  intro n
  induction n with
  | zero =>
    intro k v Q r hd h
    cases r with
    | none => exact wpAny_pure h
    | bool _ => exact wpAny_pure h
    | int _ _ => exact wpAny_pure h
    | text _ _ => exact wpAny_pure h
    | tup _ _ _ _ =>
      rw [NestedKey.depth] at hd
      omega
  | succ n ih =>
    intro k v Q r hd h
    cases r with
    | none => exact wpAny_pure h
    | bool _ => exact wpAny_pure h
    | int _ _ => exact wpAny_pure h
    | text _ _ => exact wpAny_pure h
    | @tup a o vs m ks e1 e2 e3 e4 =>
      rw [NestedKey.depth] at hd
      unfold ofAClassStatement
      refine wpAny_bind (wpAny_typeOf ⟨o, e1, e2⟩ ?_)
      dsimp only
      have e : (("tuple" : String) == "tuple") = true := by decide
      simp only [e, if_true]
      refine wpAny_bind (wpAny_pure ?_)
      simp only [Bool.not_true, Bool.false_eq_true, if_false]
      refine wpAny_bind (wpAny_seqItems e1 e3 ?_)
      dsimp only
      refine wpAny_bind ?_
      rw [← Array.forIn_toList]
      have all : ∀ u ∈ vs.toList, ∃ j, NestedIs s.heap j u ∧ j.depth ≤ n := by
        have key : ∀ (ls : List NK) (us : List Value), NestedAll s.heap ls us → NestedKey.depthAll ls ≤ n → ∀ u ∈ us, ∃ j, NestedIs s.heap j u ∧ j.depth ≤ n := by
          intro ls
          induction ls with
          | nil =>
            intro us r _ u hu
            cases r
            cases hu
          | cons l ls ih2 =>
            intro us r hz u hu
            cases r with
            | cons r1 r2 =>
              rw [NestedKey.depthAll] at hz
              rcases List.mem_cons.mp hu with q | q
              · exact ⟨l, q ▸ r1, Nat.le_trans (Nat.le_max_left _ _) hz⟩
              · exact ih2 _ r2 (Nat.le_trans (Nat.le_max_right _ _) hz) u q
        exact key ks _ e4 (by omega)
      refine wpAny_forIn_list _ (fun todo acc s' => acc.1 = none ∧ s' = s ∧ ∀ u ∈ todo, ∃ j, NestedIs s.heap j u ∧ j.depth ≤ n) _ ?_ ?_ _ _ ⟨rfl, rfl, all⟩
      · rintro u todo acc s' ⟨_, rfl, hall⟩
        obtain ⟨j, hj, hjd⟩ := hall u List.mem_cons_self
        refine wpAny_bind (ih j u hj hjd ?_)
        simp only [Bool.false_eq_true, if_false]
        exact wpAny_pure ⟨rfl, rfl, fun z hz => hall z (List.mem_cons_of_mem _ hz)⟩
      · rintro ⟨r1, r2⟩ s' ⟨q, rfl, _⟩
        simp only at q
        subst q
        exact wpAny_pure h
/-- whether a hash is by value: it is answered, whatever the answer is -/
theorem by_val : ∀ (n : Nat) (k : NK) (v : Value) {Q : Bool → Shared → Prop}, NestedIs s.heap k v → (∀ b, Q b s) → wpAny (model P w) A (hashByValue n v) Q E s := by
  intro n
  induction n with
  | zero =>
    intro k v Q r h
    cases r with
    | none => exact wpAny_pure (h true)
    | bool _ => exact wpAny_pure (h true)
    | int _ _ => exact wpAny_pure (h true)
    | text _ _ => exact wpAny_pure (h false)
    | tup _ _ _ _ => exact wpAny_pure (h false)
  | succ n ih =>
    intro k v Q r h
    cases r with
    | none => exact wpAny_pure (h true)
    | bool _ => exact wpAny_pure (h true)
    | int _ _ => exact wpAny_pure (h true)
    | text _ _ => exact wpAny_pure (h false)
    | @tup a o vs m ks e1 e2 e3 e4 =>
      unfold hashByValue
      refine wpAny_bind (wpAny_specialOf ⟨o, e1, e2⟩ F.slot_tuple_hash.lookup ?_)
      refine wpAny_bind (wpAny_seqItems e1 e3 ?_)
      refine wpAny_bind ?_
      show wpAny _ _ (forIn vs _ _) _ _ s
      rw [← Array.forIn_toList]
      have all : ∀ u ∈ vs.toList, ∃ j, NestedIs s.heap j u := by
        have key : ∀ (ls : List NK) (us : List Value), NestedAll s.heap ls us → ∀ u ∈ us, ∃ j, NestedIs s.heap j u := by
          intro ls
          induction ls with
          | nil =>
            intro us r u hu
            cases r
            cases hu
          | cons l ls ih2 =>
            intro us r u hu
            cases r with
            | cons r1 r2 => exact (List.mem_cons.mp hu).elim (fun q => ⟨l, q ▸ r1⟩) fun q => ih2 _ r2 u q
        exact key ks _ e4
      refine wpAny_forIn_list _ (fun todo acc s' => acc.1 = none ∧ s' = s ∧ ∀ u ∈ todo, ∃ j, NestedIs s.heap j u) _ ?_ ?_ _ _ ⟨rfl, rfl, all⟩
      · rintro u todo acc s' ⟨_, rfl, hall⟩
        obtain ⟨j, hj⟩ := hall u List.mem_cons_self
        refine wpAny_bind (ih j u hj fun b => ?_)
        cases b with
        | true =>
          simp only [Bool.not_true, Bool.false_eq_true, if_false]
          exact wpAny_pure ⟨rfl, rfl, fun z hz => hall z (List.mem_cons_of_mem _ hz)⟩
        | false =>
          simp only [Bool.not_false, if_true]
          exact wpAny_pure (wpAny_pure (h false))
      · rintro ⟨r1, r2⟩ s' ⟨q, rfl, _⟩
        simp only at q
        subst q
        exact wpAny_pure (h true)
/-- a search among data shows nothing -/
theorem unseen {p : Cel} (hp : Here s.heap p) {ys : List Value} (hy : ∀ y ∈ ys, ∃ q : Cel, y = Value.ref q.1 ∧ Here s.heap q) {Q : Bool → Shared → Prop} (h : Q false s) : wpAny (model P w) A (searchCouldBeSeen (.ref p.1) ys) Q E s := by
  unfold searchCouldBeSeen
  refine wpAny_bind (wpAny_forIn_list _ (fun todo acc s' => acc.1 = none ∧ s' = s ∧ ∀ y ∈ todo, ∃ q : Cel, y = Value.ref q.1 ∧ Here s.heap q) _ ?_ ?_ _ _ ⟨rfl, rfl, hy⟩)
  · rintro y todo acc s' ⟨_, rfl, hall⟩
    obtain ⟨q, rfl, hq⟩ := hall y List.mem_cons_self
    have more : ∀ y ∈ todo, ∃ q : Cel, y = Value.ref q.1 ∧ Here s'.heap q := fun z hz => hall z (List.mem_cons_of_mem _ hz)
    dsimp only
    by_cases hv : (p.1 == q.1 || (carriedByValue (.ref p.1) && carriedByValue (.ref q.1))) = true
    · exact wp_if_pos hv (wpAny_pure ⟨rfl, rfl, more⟩)
    · refine wp_if_neg hv (wpAny_bind (quiet_key p.2 _ 8 s' hp.1 hp.2 A _ _ ?_))
      simp only [Bool.not_true, Bool.false_eq_true, if_false]
      refine wpAny_bind (quiet_key q.2 _ 8 s' hq.1 hq.2 A _ _ ?_)
      simp only [Bool.not_true, Bool.false_eq_true, if_false]
      refine wpAny_bind (plain_cls 8 p.2 _ hp.1 hp.2 ?_)
      simp only [Bool.false_eq_true, if_false]
      refine wpAny_bind (plain_cls 8 q.2 _ hq.1 hq.2 ?_)
      simp only [Bool.false_eq_true, if_false]
      exact wpAny_pure ⟨rfl, rfl, more⟩
  · rintro ⟨r1, r2⟩ s' ⟨q, rfl, _⟩
    simp only at q
    subst q
    exact wpAny_pure h

/-- the set at a holds L, in its own order -/
structure Tab (w : World) (h : Heap) (a : Addr) (L : List Cel) (es : Array (Int × Value)) (ep : Nat) (t : SetTable) : Prop where
  at_ : ∃ o, h.get? a = some o ∧ o.ExactSet ∧ o.data = .set es ep t
  rows : es.toList = L.map (row w)
  ok : TabOk t (L.map fun p => kh w p.2)
  once : (L.map (·.2)).Nodup
  led : w.params.followText "set-order" = true ∨ t.led = true
  room : L.length * 5 < t.mask * 3
  few : L.length < 64
variable {a : Addr} {L : List Cel} {es : Array (Int × Value)} {ep : Nat} {t : SetTable}
theorem size_of {L : List Cel} (h : es.toList = L.map (row w)) : es.size = L.length := by
  rw [← Array.length_toList, h, List.length_map]
theorem Tab.fits (T : Tab w s.heap a L es ep t) : t.fits es.size = true := by
  have z1 := T.ok.sz
  rw [List.length_map] at z1
  have z2 := size_of T.rows
  have z3 := T.room
  unfold SetTable.fits SetTable.fill
  rw [T.ok.dm, Bool.and_eq_true, beq_iff_eq, decide_eq_true_eq]
  show t.place.size = es.size ∧ t.place.size + 0 ≤ t.mask
  omega
theorem Tab.entry (T : Tab w s.heap a L es ep t) {i : Nat} {p : Cel} (h : L[i]? = some p) : es[i]? = some (row w p) := by
  rw [← Array.getElem?_toList, T.rows, List.getElem?_map, h]
  rfl
theorem Tab.stays (T : Tab w s.heap a L es ep t) : ¬ t.gaveWay = true := by
  unfold SetTable.gaveWay
  rw [mask_odd T.ok.mok]
  decide
/-- where the search for a hash stands after c steps -/
abbrev stand (t : SetTable) (g : Int) (c : Nat) : SetTable.Probe := nth t.mask (runAt t.mask (SetTable.bits g % (t.mask + 1)) (SetTable.bits g)) c
theorem stand_add (t : SetTable) (g : Int) (c q : Nat) : nth t.mask (stand t g c) q = stand t g (c + q) := (nth_add t.mask c _ q).symm
theorem stand_clean (t : SetTable) (g : Int) : ∀ c, (stand t g c).dummy = none := by
  have key : ∀ (n : Nat) (p : SetTable.Probe), p.dummy = none → (nth t.mask p n).dummy = none := by
    intro n
    induction n with
    | zero => exact fun p h => h
    | succ n ih =>
      intro p h
      refine ih (adv t.mask p) ?_
      unfold adv
      split <;> exact h
  exact fun c => key c _ rfl
/-- the search for p, from its c-th step on -/
theorem seek (T : Tab w s.heap a L es ep t) (hL : ∀ q ∈ L, Here s.heap q) {p : Cel} (hp : Here s.heap p) (hu : A.units + 8 < cLine) {K : Nat} (hK : K < 10 * SetTable.turns t.mask) (free : way t.mask (kh w p.2) K ∉ t.place.toList)
    (full : ∀ c, c < K → way t.mask (kh w p.2) c ∈ t.place.toList) {Q : SetFound → Shared → Prop} (yes : p.2 ∈ L.map (·.2) → Q (.there none) s) (no : p.2 ∉ L.map (·.2) → Q (.free (way t.mask (kh w p.2) K) false) s) :
    ∀ (f c : Nat) (at0 : Option SetTable.Probe), at0.getD (t.probeStart (kh w p.2)) = stand t (kh w p.2) c → c ≤ K → K - c < f →
      (∀ (i : Nat) q, L[i]? = some q → q.2 = p.2 → ∃ c', c ≤ c' ∧ c' < K ∧ t.place.toList[i]? = some (way t.mask (kh w p.2) c')) → wpAny (model P w) A (setSearchFrom a (.ref p.1) (kh w p.2) true f at0) Q E s
  | 0, _, _, _, _, hf, _ => absurd hf (Nat.not_lt_zero _)
  | f + 1, c, at0, h0, hc, hf, ahead => by
    obtain ⟨o, ho, hex, hd⟩ := T.at_
    have jat : ∀ q, (nth t.mask (stand t (kh w p.2) c) q).j = way t.mask (kh w p.2) (c + q) := fun q => congrArg SetTable.Probe.j (stand_add t _ c q)
    have cK : c + (K - c) = K := by omega
    have found := go_spec t T.ok.ris T.ok.dm (fun i => (es[i]?.map (·.1)).getD 0) (kh w p.2) (10 * SetTable.turns t.mask) (K - c) _ (stand_clean t (kh w p.2) c) (by omega)
      (fun q hq => by rw [jat]; exact full (c + q) (by omega)) (by rw [jat, cK]; exact free)
    have hashAt : ∀ (i : Nat) q, L[i]? = some q → (fun i => (es[i]?.map (·.1)).getD 0) i = kh w q.2 := fun i q e => by
      dsimp only
      rw [T.entry e]
      rfl
    rw [setSearchFrom_succ]
    refine wpAny_bind (wpAny_setState_of ho hd T.fits ?_)
    dsimp only
    refine wp_if_neg T.stays ?_
    rcases found with ⟨q, i, hq, hi, hh, before, pr⟩ | ⟨before, pr⟩
    · have pr' : t.probe (fun i => (es[i]?.map (·.1)).getD 0) (kh w p.2) (at0.getD (t.probeStart (kh w p.2))) = some (.candidate (way t.mask (kh w p.2) (c + q)) i (stand t (kh w p.2) (c + (q + 1)))) := by
        rw [h0, ← jat, ← stand_add]
        exact pr
      rw [jat] at hi
      have il : i < L.length := by
        have z1 := (List.getElem?_eq_some_iff.mp hi).1
        have z2 := T.ok.sz
        rw [Array.length_toList] at z1
        rw [List.length_map] at z2
        omega
      obtain ⟨r, hr⟩ : ∃ r, L[i]? = some r := ⟨_, List.getElem?_eq_getElem il⟩
      have mr := List.mem_of_getElem? hr
      have go : wpAny (model P w) A (searchRest a (.ref p.1) (kh w p.2) true f es t (way t.mask (kh w p.2) (c + q)) i (stand t (kh w p.2) (c + (q + 1)))) Q E s := by
        unfold searchRest
        rw [T.entry hr]
        dsimp only
        refine wpAny_bind (wpAny_holding (eqAt_key r.2 p.2 A s _ _ (hL r mr).1 hp.1 (by have := (hL r mr).2; omega) P w _ _ ?_))
        refine wpAny_bind (wpAny_setState_of ho hd T.fits ?_)
        dsimp only
        rw [← NestedKey.decide_eq]
        by_cases same : r.2 = p.2
        · exact wp_if_pos (by simp [same]) (wpAny_pure (yes (List.mem_map.mpr ⟨r, mr, same⟩)))
        · refine wp_if_neg (by simp [same]) ?_
          rw [sameMem]
          dsimp only
          have live : t.slot (way t.mask (kh w p.2) (c + q)) = .live i := slot_live T.ok.ris hi
          simp only [if_true, live, T.entry hr]
          refine wpAny_bind (wpAny_isSame_ref_self (wpAny_bind (wpAny_pure ?_)))
          simp only [if_true]
          refine wp_if_neg (by simp [same]) ?_
          refine seek T hL hp hu hK free full yes no f (c + (q + 1)) _ rfl (by omega) (by omega) fun i0 p0 e0 same0 => ?_
          obtain ⟨c', z1, z2, z3⟩ := ahead i0 p0 e0 same0
          refine ⟨c', Nat.le_of_not_lt fun lt => ?_, z2, z3⟩
          by_cases early : c' < c + q
          · refine before (c' - c) i0 (by omega) (by rw [jat, show c + (c' - c) = c' by omega]; exact z3) ?_
            exact (hashAt i0 p0 e0).trans (congrArg (kh w) same0)
          · have ec : c' = c + q := by omega
            rw [ec] at z3
            have l2 := slot_live T.ok.ris z3
            rw [live] at l2
            injection l2 with l2
            rw [← l2, hr] at e0
            exact same ((congrArg Prod.snd (Option.some.inj e0)).trans same0)
      rw [pr']
      dsimp only
      by_cases hl : t.led = true
      · exact wp_if_neg (by simp [hl]) go
      · refine wp_if_pos (by simp [hl]) (wpAny_bind (unseen hp (fun y hy => ?_) ?_))
        · obtain ⟨e, he, ee⟩ := List.mem_map.mp hy
          have m1 : e ∈ es := by
            have : e ∈ es ∧ e.1 = kh w p.2 := by simpa using he
            exact this.1
          have m2 : e ∈ L.map (row w) := by
            rw [← T.rows]
            simpa using m1
          obtain ⟨q2, mq, eq2⟩ := List.mem_map.mp m2
          exact ⟨q2, by rw [← ee, ← eq2], hL q2 mq⟩
        · exact wp_if_neg (by decide) go
    · have pr' : t.probe (fun i => (es[i]?.map (·.1)).getD 0) (kh w p.2) (at0.getD (t.probeStart (kh w p.2))) = some (.empty (way t.mask (kh w p.2) K) none) := by
        have e2 : way t.mask (kh w p.2) K = (nth t.mask (stand t (kh w p.2) c) (K - c)).j := by rw [jat, cK]
        rw [h0, e2]
        exact pr
      rw [pr']
      dsimp only
      refine wpAny_pure (no fun hm => ?_)
      obtain ⟨p0, m0, same0⟩ := List.mem_map.mp hm
      obtain ⟨i0, e0⟩ := List.mem_iff_getElem?.mp m0
      obtain ⟨c', z1, z2, z3⟩ := ahead i0 p0 e0 same0
      refine before (c' - c) i0 (by omega) (by rw [jat, show c + (c' - c) = c' by omega]; exact z3) ?_
      exact (hashAt i0 p0 e0).trans (congrArg (kh w) same0)
theorem seek_all (T : Tab w s.heap a L es ep t) (hL : ∀ q ∈ L, Here s.heap q) {p : Cel} (hp : Here s.heap p) (hu : A.units + 8 < cLine) {Q : SetFound → Shared → Prop} (yes : p.2 ∈ L.map (·.2) → Q (.there none) s)
    (no : ∀ K, p.2 ∉ L.map (·.2) → way t.mask (kh w p.2) K ∉ t.place.toList → (∀ c, c < K → way t.mask (kh w p.2) c ∈ t.place.toList) → Q (.free (way t.mask (kh w p.2) K) false) s) :
    wpAny (model P w) A (setSearch a (.ref p.1) (kh w p.2) true) Q E s := by
  have rm := T.room
  obtain ⟨K, k1, k2, k3⟩ := T.ok.first (by rw [List.length_map]; omega) (kh w p.2)
  have small : K < 100000 := by
    have le : 10 * SetTable.turns t.mask ≤ 1420 := by
      unfold SetTable.turns
      rcases T.ok.mok with e | e | e <;> omega
    omega
  unfold setSearch
  refine seek T hL hp hu k1 k2 k3 yes (fun hn => no K hn k2 k3) 100000 0 none rfl (Nat.zero_le _) (by omega) fun i q e same => ?_
  have hi : (L.map fun p => kh w p.2)[i]? = some (kh w p.2) := by
    rw [List.getElem?_map, e, ← same]
    rfl
  have il : i < t.place.toList.length := by
    have z1 := (List.getElem?_eq_some_iff.mp e).1
    have z2 := T.ok.sz
    rw [List.length_map] at z2
    rw [Array.length_toList]
    omega
  obtain ⟨c, z1, z2⟩ := T.ok.before k2 hi (List.getElem?_eq_getElem il)
  exact ⟨c, Nat.zero_le _, z1, by rw [List.getElem?_eq_getElem il, z2]⟩
end
end G53

/-! set(xs) of data: adding, laying anew, the whole call. -/
namespace G53
open PySem PySem.Spec PyProof.Rows L2

theorem drawn_rows {α : Type} (f : α → Int × Value) (L : List α) (es : Array (Int × Value)) (order : Array Nat) (hr : es.toList = L.map f) (hp : order.toList.Perm (List.range L.length)) :
    ∃ M : List α, (order.filterMap (es[·]?)).toList = M.map f ∧ M.Perm L ∧ (M.map fun x => (f x).1) = order.toList.map fun i => (es.map (·.1)).getD i 0 := by
  have entry : ∀ i, es[i]? = (L[i]?).map f := fun i => by rw [← Array.getElem?_toList, hr, List.getElem?_map]
  have inside : ∀ i ∈ order.toList, i < L.length := fun i hi => List.mem_range.mp (hp.mem_iff.mp hi)
  refine ⟨order.toList.filterMap fun i => L[i]?, ?_, ?_, ?_⟩
  · rw [Array.toList_filterMap, List.map_filterMap]
    exact congrArg (fun g => order.toList.filterMap g) (funext entry)
  · have whole : ∀ n, n ≤ L.length → (List.range n).filterMap (fun i => L[i]?) = L.take n := by
      intro n
      induction n with
      | zero => exact fun _ => rfl
      | succ n ih =>
        intro le
        have lt : n < L.length := le
        rw [List.range_succ, List.filterMap_append, ih (Nat.le_of_succ_le le), List.take_succ, List.getElem?_eq_getElem lt, List.filterMap_cons_some (List.getElem?_eq_getElem lt)]
        rfl
    have z := hp.filterMap fun i => L[i]?
    rw [whole _ (Nat.le_refl _), List.take_length] at z
    exact z
  · generalize order.toList = l at inside
    induction l with
    | nil => rfl
    | cons i l ih =>
      have li := inside i List.mem_cons_self
      rw [List.filterMap_cons_some (List.getElem?_eq_getElem li), List.map_cons, List.map_cons, ih fun j hj => inside j (List.mem_cons_of_mem _ hj)]
      have e : (es.map (·.1)).getD i 0 = (f L[i]).1 := by
        have e2 : (es.map (·.1))[i]? = some (f L[i]).1 := by
          rw [Array.getElem?_map, entry, List.getElem?_eq_getElem li]
          rfl
        simp [Array.getD_eq_getD_getElem?, e2]
      rw [e]

section
variable {P : Program} {w : World} {A : Around} {E : Value → Shared → Prop} {s : Shared} {a : Addr} {L : List Cel} {es : Array (Int × Value)} {ep : Nat} {t : SetTable}
/-- a larger table -/
theorem regrow {o : Obj} (ho : s.heap.get? a = some o) (hex : o.ExactSet) (hd : o.data = .set es ep t) (rows : es.toList = L.map (row w)) (hsz : t.place.size = es.size) (hdm : t.dummies = #[]) (hfl : es.size ≤ t.mask) (once : (L.map (·.2)).Nodup)
    (ld : w.params.followText "set-order" = true ∨ t.led = true) (few : L.length < 64) {wanted M : Nat} (hw : SetTable.sizeAbove wanted - 1 = M) (hM : MaskOk M) (hw2 : SetTable.sizeAbove wanted ≤ 128) (hn : L.length * 5 < M * 3)
    {Q : Unit → Shared → Prop} (hQ : ∀ h' L' es' ep' t', Heap.SameBut a s.heap h' → Tab w h' a L' es' ep' t' → L'.Perm L → Q () { s with heap := h' }) : wpAny (model P w) A (setRelay a wanted) Q E s := by
  have hl := size_of rows
  have fits : t.fits es.size = true := by
    unfold SetTable.fits SetTable.fill
    rw [hdm, Bool.and_eq_true, beq_iff_eq, decide_eq_true_eq]
    exact ⟨hsz, by show t.place.size + 0 ≤ t.mask; omega⟩
  obtain ⟨t', order, e1, e2, e3, e4, e5, _, _⟩ := relaid_ok t (hs := es.map (·.1)) (wanted := wanted) hw hM (by rw [Array.size_map, hl]; omega)
  rw [Array.size_map, hl] at e2
  obtain ⟨L', r1, r2, r3⟩ := drawn_rows (row w) L es order rows e2
  have hs : (order.filterMap (es[·]?)).size = es.size := by
    rw [← Array.length_toList, r1, List.length_map, r2.length_eq, hl]
  rw [setRelay_eq]
  refine wpAny_bind (wpAny_setState_of ho hd fits ?_)
  dsimp only
  refine wp_if_neg (by rw [sizeLine_eq]; omega) ?_
  rw [e1]
  dsimp only
  refine wpAny_bind (wp_if_neg (by rw [hs]; simp) (wpAny_pure ?_))
  dsimp only
  refine wpAny_storeSet_of ho hd ?_ (by rw [hs, hl, sizeLine_eq]; omega)
  refine hQ _ L' (order.filterMap (es[·]?)) (ep + 1) t' (Heap.SameBut.update ..) ⟨⟨_, store_at ho hd, ⟨hex.1, hex.2.1, hex.2.2⟩, rfl⟩, r1, ?_, (r2.map (·.2)).nodup_iff.mpr once, by rw [e5]; exact ld, by rw [r2.length_eq, e4]; exact hn, by rw [r2.length_eq]; exact few⟩ r2
  have z : (L'.map fun p => kh w p.2) = order.toList.map fun i => (es.map (·.1)).getD i 0 := r3
  rw [z]
  exact e3
theorem put_in (L : List Cel) (n : Nat) (p : Cel) : (L.take n ++ p :: L.drop n).Perm (p :: L) := by
  have z : (L.take n ++ p :: L.drop n).Perm (p :: (L.take n ++ L.drop n)) := List.perm_middle
  rwa [List.take_append_drop] at z
/-- s.add(p) -/
theorem add_one (T : Tab w s.heap a L es ep t) (hL : ∀ q ∈ L, Here s.heap q) {p : Cel} (hp : Here s.heap p) (hu : A.units + 8 < cLine) (more : L.length + 1 < 64) {Q : Bool → Shared → Prop}
    (hQ : ∀ b h' L' es' ep' t', Heap.SameBut a s.heap h' → Tab w h' a L' es' ep' t' → (p.2 ∈ L.map (·.2) → L' = L) → (p.2 ∉ L.map (·.2) → L'.Perm (p :: L)) → Q b { s with heap := h' }) :
    wpAny (model P w) A (setAddHashed a (.ref p.1) (kh w p.2)) Q E s := by
  obtain ⟨o, ho, hex, hd⟩ := T.at_
  have hl := size_of T.rows
  have rm := T.room
  unfold setAddHashed
  refine wpAny_holding ?_
  rw [show (100000 : Nat) = 99999 + 1 from rfl, setAddHashedIn_succ]
  refine wpAny_bind (wpAny_setState_of ho hd T.fits ?_)
  dsimp only
  refine wp_if_neg (by simp [byScan, Value.scannable]) ?_
  refine wpAny_bind (seek_all T hL hp hu (fun hm => ?_) fun K hm free full => ?_)
  · exact wpAny_pure (hQ false s.heap L es ep t (Heap.SameBut.refl a s.heap) T (fun _ => rfl) fun z => absurd hm z)
  · dsimp only
    refine wpAny_bind (wpAny_setState_of ho hd T.fits ?_)
    dsimp only
    obtain ⟨q1, q2, q3, q4, q5, q6, q7, q8, q9⟩ := T.ok.put free full
    generalize hpt : t.put (way t.mask (kh w p.2) K) = pt at q1 q3 q4 q5 q6 q7 q8 q9 ⊢
    obtain ⟨t1, n⟩ := pt
    dsimp only at q1 q3 q4 q5 q6 q7 q8 q9 ⊢
    subst q1
    have key : ∀ t2 : SetTable, TabOk t2 (List.take (SetTable.below t.place (way t.mask (kh w p.2) K)) (L.map fun p => kh w p.2) ++ kh w p.2 :: List.drop (SetTable.below t.place (way t.mask (kh w p.2) K)) (L.map fun p => kh w p.2)) → t2.mask = t.mask →
        t2.led = t.led → t2.fill = L.length + 1 → wpAny (model P w) A (do
          storeSet a (SetTable.insertAt es (SetTable.below t.place (way t.mask (kh w p.2) K)) (kh w p.2, Value.ref p.1)) t2
          if (!false && t2.tooFull) = true then do
            setRelay a (SetTable.grown (es.size + 1))
            pure true
          else pure true) Q E s := by
      intro t2 k1 k2 k3 k4
      have rows2 : (SetTable.insertAt es (SetTable.below t.place (way t.mask (kh w p.2) K)) (kh w p.2, Value.ref p.1)).toList = (L.take (SetTable.below t.place (way t.mask (kh w p.2) K)) ++ p :: L.drop (SetTable.below t.place (way t.mask (kh w p.2) K))).map (row w) := by
        rw [SetTable.toList_insertAt, T.rows, List.map_append, List.map_cons, List.map_take, List.map_drop]
      generalize SetTable.below t.place (way t.mask (kh w p.2) K) = n at k1 q2 rows2 ⊢
      have pm := put_in L n p
      have k1' : TabOk t2 ((L.take n ++ p :: L.drop n).map fun p => kh w p.2) := by
        rw [List.map_append, List.map_cons, List.map_take, List.map_drop]
        exact k1
      generalize SetTable.insertAt es n (kh w p.2, Value.ref p.1) = es2 at rows2 ⊢
      generalize L.take n ++ p :: L.drop n = L2 at pm k1' rows2
      have len2 : L2.length = L.length + 1 := pm.length_eq
      have sz2 := size_of rows2
      have once2 : (L2.map (·.2)).Nodup := by
        refine (pm.map (·.2)).nodup_iff.mpr ?_
        rw [List.map_cons]
        exact List.nodup_cons.mpr ⟨hm, T.once⟩
      refine wpAny_bind (wpAny_storeSet_of ho hd ?_ (by rw [sz2, len2, sizeLine_eq]; omega))
      have sb : Heap.SameBut a s.heap (s.heap.update a (Obj.putSet es2 t2)) := Heap.SameBut.update ..
      have ho2 := store_at (es' := es2) (t' := t2) ho hd
      generalize s.heap.update a (Obj.putSet es2 t2) = h2 at sb ho2 ⊢
      have led2 : w.params.followText "set-order" = true ∨ t2.led = true := by
        rw [k3]
        exact T.led
      by_cases hf : t2.tooFull = true
      · refine wp_if_pos (by simp [hf]) (wpAny_bind ?_)
        have full2 : (L.length + 1) * 5 ≥ t2.mask * 3 := by
          unfold SetTable.tooFull at hf
          rw [decide_eq_true_eq, k4] at hf
          exact hf
        rw [hl]
        have place2 : t2.place.size = es2.size := by
          have z := k1'.sz
          rw [List.length_map] at z
          rw [z, sz2]
        have two : (t.mask = 7 ∧ L.length = 4) ∨ (t.mask = 31 ∧ L.length = 18) := by
          rw [k2] at full2
          rcases T.ok.mok with e | e | e <;> rw [e] at rm full2 <;> omega
        have grow : ∀ M, SetTable.sizeAbove (SetTable.grown (L.length + 1)) - 1 = M → MaskOk M → SetTable.sizeAbove (SetTable.grown (L.length + 1)) ≤ 128 → (L.length + 1) * 5 < M * 3 →
            wpAny (model P w) A (setRelay a (SetTable.grown (L.length + 1))) (fun _ s' => wpAny (model P w) A (pure true) Q E s') E { s with heap := h2 } := fun M g1 g2 g3 g4 => by
          refine regrow (s := { s with heap := h2 }) ho2 ⟨hex.1, hex.2.1, hex.2.2⟩ rfl rows2 place2 k1'.dm (by rw [sz2, len2, k2]; rcases two with ⟨e, e'⟩ | ⟨e, e'⟩ <;> omega) once2 led2 (by rw [len2]; exact more) g1 g2 g3 (by rw [len2]; exact g4) ?_
          exact fun h3 L3 es3 ep3 t3 sb3 T3 pm3 => wpAny_pure (hQ true h3 L3 es3 ep3 t3 (sb.trans sb3) T3 (fun z => absurd z hm) fun _ => pm3.trans pm)
        rcases two with ⟨_, e2⟩ | ⟨_, e2⟩
        · exact grow 31 (by rw [e2, size_20]) (.inr (.inl rfl)) (by rw [e2, size_20]; decide) (by omega)
        · exact grow 127 (by rw [e2, size_76]) (.inr (.inr rfl)) (by rw [e2, size_76]; decide) (by omega)
      · refine wp_if_neg (by simp [hf]) (wpAny_pure ?_)
        refine hQ true h2 L2 es2 (ep + 1) t2 sb ⟨⟨_, ho2, ⟨hex.1, hex.2.1, hex.2.2⟩, rfl⟩, rows2, k1', once2, led2, ?_, by rw [len2]; exact more⟩ (fun z => absurd z hm) fun _ => pm
        unfold SetTable.tooFull at hf
        rw [decide_eq_true_eq, k4] at hf
        rw [len2]
        omega
    rw [List.length_map] at q9
    have key2 : ∀ bv : Bool, wpAny (model P w) A (do
        storeSet a (SetTable.insertAt es (SetTable.below t.place (way t.mask (kh w p.2) K)) (kh w p.2, Value.ref p.1)) (if bv = true then t1 else { t1 with plain := false })
        if (!false && (if bv = true then t1 else { t1 with plain := false }).tooFull) = true then do
          setRelay a (SetTable.grown (es.size + 1))
          pure true
        else pure true) Q E s := fun bv => by
      cases bv with
      | true => exact key t1 q3 q4 q5 q9
      | false => exact key { t1 with plain := false } ⟨q3.1, q3.2, q3.3, q3.4, q3.5, q3.6⟩ q4 q5 q9
    by_cases hpl : t1.plain = true
    · exact wp_if_pos hpl (wpAny_bind (by_val 8 p.2 _ hp.1 key2))
    · exact wp_if_neg hpl (wpAny_bind (wpAny_pure (key2 true)))
end
end G53

/-! set(xs) of data: the call, and the rules set, sorted over the abstract heap. -/
namespace G53
open PySem PySem.Spec PyProof.Rows L2

/-- what L has of the first i items -/
structure Took (ks : List Cel) (i : Nat) (L : List Cel) : Prop where
  sub : ∀ p ∈ L, p ∈ ks.take i
  all : ∀ p ∈ ks.take i, p.2 ∈ L.map (·.2)
  len : L.length ≤ i
theorem Took.next {ks L L' : List Cel} {i : Nat} {x : Cel} (g : Took ks i L) (h : ks[i]? = some x) (same : x.2 ∈ L.map (·.2) → L' = L) (other : x.2 ∉ L.map (·.2) → L'.Perm (x :: L)) : Took ks (i + 1) L' := by
  have e : ks.take (i + 1) = ks.take i ++ [x] := take_next h
  by_cases hm : x.2 ∈ L.map (·.2)
  · rw [same hm]
    refine ⟨fun p hp => ?_, fun p hp => ?_, Nat.le_succ_of_le g.len⟩
    · rw [e]
      exact List.mem_append_left _ (g.sub p hp)
    · rw [e] at hp
      rcases List.mem_append.mp hp with z | z
      · exact g.all p z
      · rw [List.mem_singleton.mp z]
        exact hm
  · have pm := other hm
    refine ⟨fun p hp => ?_, fun p hp => ?_, by rw [pm.length_eq, List.length_cons]; exact Nat.succ_le_succ g.len⟩
    · rw [e]
      rcases List.mem_cons.mp (pm.mem_iff.mp hp) with z | z
      · rw [z]
        exact List.mem_append_right _ List.mem_cons_self
      · exact List.mem_append_left _ (g.sub p z)
    · rw [e] at hp
      rw [(pm.map (·.2)).mem_iff, List.map_cons]
      rcases List.mem_append.mp hp with z | z
      · exact List.mem_cons_of_mem _ (g.all p z)
      · rw [List.mem_singleton.mp z]
        exact List.mem_cons_self

section
variable {P : Program} {w : World} {A : Around} {E : Value → Shared → Prop} {s : Shared}
theorem Tab.kept {h h' : Heap} {a : Addr} {L : List Cel} {es : Array (Int × Value)} {ep : Nat} {t : SetTable} (T : Tab w h a L es ep t) (k : ∀ o, h.get? a = some o → h'.get? a = some o) : Tab w h' a L es ep t :=
  let ⟨o, ho, r⟩ := T.at_
  ⟨⟨o, k o ho, r⟩, T.rows, T.ok, T.once, T.led, T.room, T.few⟩
theorem tab_new {h : Heap} {a : Addr} (ho : h.get? a = some { cls := .type "set", dict := none, data := .set #[] 0 (.fresh 0 0 (!w.params.followText "set-order")) }) : Tab w h a [] #[] 0 (.fresh 0 0 (!w.params.followText "set-order")) := by
  refine ⟨⟨_, ho, ⟨rfl, rfl, rfl⟩, rfl⟩, rfl, ⟨List.Pairwise.nil, rfl, rfl, .inl rfl, fun x hx => (by cases hx), fun i g j e => (by simp at e)⟩, List.nodup_nil, ?_, (by show 0 * 5 < 7 * 3; decide), (by show 0 < 64; decide)⟩
  cases hf : w.params.followText "set-order" with
  | true => exact .inl rfl
  | false => exact .inr rfl
theorem Here.stay {h h' : Heap} {p : Cel} (x : Here h p) (k : ∀ b o, h.get? b = some o → h'.get? b = some o) : Here h' p := x.keep fun b o _ _ e _ => k b o e

/-- the loop of set.update -/
theorem fill_set {I S : Addr} {fp wr : List Addr} {G : Array GenState → Array GenState → Prop} {n : Nat} {Pv : Nat → Value → Prop} {St : Nat → Shared → Prop} {R : Result → Shared → Prop} (W : WalksS P w A.in1 I fp wr G n Pv St) (hS : S ∉ fp)
    (ks : List Cel) (hn : n = ks.length) (few : ks.length < 64) (val : ∀ i v, Pv i v → ∃ p, ks[i]? = some p ∧ v = .ref p.1) (h0 : Heap) (here : ∀ p ∈ ks, Here h0 p) (S0 : h0.get? S = none) (wr0 : ∀ b ∈ wr, h0.get? b = none)
    (hu : A.in1.units + 8 < cLine) : ∀ (k i : Nat) (s : Shared), n - i = k → i ≤ n → St i s → (∀ b o, h0.get? b = some o → s.heap.get? b = some o) → (∃ L es ep t, Tab w s.heap S L es ep t ∧ Took ks i L) →
      (∀ s' L es ep t, Moved (S :: wr) G s s' → Tab w s'.heap S L es ep t → Took ks n L → (∀ b o, h0.get? b = some o → s'.heap.get? b = some o) → R (.ok (.ret .none)) s') →
      codeAny (model P w) A (.builtin "set.update.loop" ⟨[.ref S, .ref I], []⟩) R s := by
  have Sw : S ∉ wr := fun z => hS (W.sub _ z)
  have up : ∀ b ∈ wr, b ∈ S :: wr := fun b hb => List.mem_cons_of_mem _ hb
  have old : ∀ {s s' : Shared}, Moved wr G s s' → (∀ b o, h0.get? b = some o → s.heap.get? b = some o) → ∀ b o, h0.get? b = some o → s'.heap.get? b = some o := fun m k b o e => m.heap b o (fun z => by rw [wr0 b z] at e; cases e) (k b o e)
  intro k
  induction k with
  | zero =>
    intro i s hk hi st ko ⟨L, es, ep, t, T, g⟩ hR
    obtain rfl : i = n := by omega
    refine codeAny_builtin F.entry_set_update_loop ?_
    rw [Around.under_plainId F.plain_set_update_loop _]
    show wpAny _ A.in1 (pyNext (.ref I) >>= _) _ _ s
    refine wpAny_bind (W.done s _ _ st fun s' m => ?_)
    exact wpAny_pure (hR s' L es ep t (m.mono up) (T.kept fun o e => m.heap S o Sw e) g (old m ko))
  | succ k ih =>
    intro i s hk hi st ko ⟨L, es, ep, t, T, g⟩ hR
    have lt : i < n := by omega
    refine codeAny_builtin F.entry_set_update_loop ?_
    rw [Around.under_plainId F.plain_set_update_loop _]
    show wpAny _ A.in1 (pyNext (.ref I) >>= _) _ _ s
    refine wpAny_bind (W.item i s _ _ lt st fun v s' hP st' m => ?_)
    obtain ⟨p, ep0, rfl⟩ := val i v hP
    have ko' := old m ko
    have T' : Tab w s'.heap S L es ep t := T.kept fun o e => m.heap S o Sw e
    have hp : Here s'.heap p := (here p (List.mem_of_getElem? ep0)).stay ko'
    have hL : ∀ q ∈ L, Here s'.heap q := fun q hq => (here q (List.mem_of_mem_take (g.sub q hq))).stay ko'
    show wpAny _ A.in1 (holding [Value.ref p.1] (setAdd S (.ref p.1)) >>= _) _ _ s'
    refine wpAny_bind (wpAny_holding ?_)
    unfold setAdd
    refine wpAny_holding (wpAny_bind (pyHash_key p.2 _ A.in1 s' _ hp.1 (by have := hp.2; omega) ?_))
    refine add_one (s := { s' with toks := s'.toks + p.2.draws }) T' hL hp hu (by have := g.len; omega) fun b h' L' es' ep' t' sb T2 c1 c2 => ?_
    have ko2 : ∀ b o, h0.get? b = some o → h'.get? b = some o := fun b o e => (sb.2 b fun z => by rw [z, S0] at e; cases e).trans (ko' b o e)
    refine wpAny_pure ⟨plainId_quiet F.plain_set_update_loop _, ih (i + 1) _ (by omega) lt (W.frame _ s' _ _ st' (Nat.le_add_right _ _) fun b hb o e => ?_) ko2 ⟨L', es', ep', t', T2, g.next ep0 c1 c2⟩ fun s2 L2 es2 ep2 t2 m2 T3 g3 ko3 => ?_⟩
    · rw [sb.2 b fun z => hS (z ▸ hb)]
      exact e
    · refine hR s2 L2 es2 ep2 t2 (Moved.trans W.gtrans ((m.mono up).then_heap (Nat.le_add_right _ _) fun b o hb e => ?_) m2) T3 g3 ko3
      rw [sb.2 b fun z => hb (by rw [z]; exact List.mem_cons_self)]
      exact e

set_option maxHeartbeats 3200000 in
/-- set(xs) -/
theorem call_set {l : Addr} {items : Array Value} (ks : List Cel) {Q : Value → Shared → Prop} (hh : A.handled = none) (hl : s.heap.IsList l items) (it : items.toList = ks.map fun p => Value.ref p.1) (here : ∀ p ∈ ks, Here s.heap p) (few : ks.length < 64)
    (hu : A.units + 20 < cLine) (hQ : ∀ (h' : Heap) (tk : Nat) L es ep t, Tab w h' s.heap.objs.size L es ep t → Took ks ks.length L → (∀ b o, s.heap.get? b = some o → h'.get? b = some o) → Q (.ref s.heap.objs.size) { s with heap := h', toks := tk }) :
    wpAny (model P w) A (call (.type "set") [.ref l]) Q E s := by
  have isz : items.size = ks.length := by rw [← Array.length_toList, it, List.length_map]
  obtain ⟨c, tl, hmro⟩ := F.called_set.mro
  have hmade := F.called_set.made
  have hsub := F.called_set.sub
  refine wpAny_call (codeAny_of_tree ?_)
  show wpAny _ _ (callAny (.type "set") _) _ _ _
  refine wpAny_pure ⟨Code.quiet_builtin _ (by decide +kernel), codeAny_builtin F.entry_type_call ?_⟩
  rw [Around.under_plain (weight_type_call_type "set" [.ref l] []) rfl]
  have c1 := F.called_set.notType
  have c2 := F.called_set.canCreate
  have c3 := F.typeCall_set_1 (.ref l)
  repeat (any_goals (first | assumption | wp_step))
  refine codeAny_mono (code_set_led1 (.ref l) (E := E) (Q₁ := fun obj s₁ => obj = .ref s.heap.objs.size ∧ s₁ = { s with heap := s.heap.push { cls := .type "set", dict := none, data := .set #[] 0 (.fresh 0 0 (!w.params.followText "set-order")) } }) ⟨rfl, rfl⟩) fun r s₁ hr => ?_
  cases r with
  | error e => exact hr
  | ok fl =>
    cases fl with
    | ret obj =>
      obtain ⟨rfl, rfl⟩ := hr
      generalize hob : ({ cls := .type "set", dict := none, data := .set #[] 0 (.fresh 0 0 (!w.params.followText "set-order")) } : Obj) = ob
      have at0 : (s.heap.push ob).get? s.heap.objs.size = some ob := Heap.get?_push_size _ (by rw [← hob]; rfl)
      have ty0 : Shared.TypeIs { s with heap := s.heap.push ob } (.ref s.heap.objs.size) "set" := ⟨_, at0, by rw [← hob]⟩
      have hli := F.called_set.init.lookup
      have hbi := F.called_set.init.bind (.ref s.heap.objs.size)
      repeat (any_goals (first | assumption | wp_step))
      refine codeAny_mono (codeAny_call_builtin (R := wants (fun r s₂ => r = .none ∧ ∃ h' tk L es ep t, s₂ = { s with heap := h', toks := tk } ∧ Tab w h' s.heap.objs.size L es ep t ∧ Took ks ks.length L ∧
          (∀ b o, s.heap.get? b = some o → h'.get? b = some o)) E) F.called_set.init.plain F.entry_set_init (check_set_init_1 ty0 ?_)) fun r₂ s₂ hr₂ => ?_
      · obtain ⟨⟨xc, xd, xt, xs⟩, ol, oc, on, od⟩ := hl
        simp only at oc od
        subst oc od
        have ol1 : (s.heap.push ob).get? l = some { cls := .type "list", dict := xd, data := .seq items on, slots := xs } := Heap.get?_push_of_some _ ol
        have f1 := F.sub_list_set
        have f2 := F.sub_list_frozenset
        have f3 : (Value.type "list" == Value.type "dict") = false := by decide
        have li : (s.heap.push ob).IsList l items := ⟨_, ol1, rfl, on, rfl⟩
        subst hob
        unfold Builtin.«set.__init__» noKeywords Builtin.Frozenset.updateFrom
        generalize hPI : pyIter = PI
        wp_walk
        subst hPI
        refine wpAny_pyIter_list li ?_
        refine (wpAny_bind (wpAny_runValue ?_))
        have below : l < s.heap.objs.size := Heap.lt_size ol
        have sz1 : ∀ o : Obj, (s.heap.push o).objs.size = s.heap.objs.size + 1 := fun _ => Heap.size_push ..
        have val : ∀ (i : Nat) (v : Value), items[i]? = some v → ∃ p, ks[i]? = some p ∧ v = .ref p.1 := fun i v e => by
          rw [← Array.getElem?_toList, it, List.getElem?_map] at e
          cases q : ks[i]? with
          | none =>
            rw [q] at e
            cases e
          | some p =>
            rw [q] at e
            exact ⟨p, rfl, (Option.some.inj e).symm⟩
        have none0 : ∀ b, s.heap.objs.size ≤ b → s.heap.get? b = none := fun b hb => by
          cases q : s.heap.get? b with
          | none => rfl
          | some o => exact absurd (Heap.lt_size q) (Nat.not_lt_of_le hb)
        refine fill_set ((Walks.list (show A.in1.in1.in1.handled = none by simp [hh]) _ l (by rw [sz1]; exact Nat.ne_of_lt (Nat.lt_succ_of_lt below)) items).toS) (S := s.heap.objs.size) (by
            rw [sz1]
            simp only [List.mem_cons, List.not_mem_nil, or_false, not_or]
            exact ⟨Nat.ne_of_lt (Nat.lt_succ_self _), Nat.ne_of_gt below⟩) ks isz few val s.heap here (none0 _ (Nat.le_refl _)) (fun b hb => none0 b (by
            rw [List.mem_singleton.mp hb, sz1]
            exact Nat.le_succ _)) (by simp only [Around.in1_units]; omega) (items.size - 0) 0 _ (by omega) (Nat.zero_le _) ⟨⟨_, Heap.get?_push_size _ rfl, rfl, rfl⟩, li.push _⟩ (fun b o e => Heap.get?_push_of_some _ (Heap.get?_push_of_some _ e)) ?start ?fin
        case start =>
          refine ⟨[], #[], 0, _, tab_new ?_, fun p hp => absurd hp (by simp), fun p hp => absurd hp (by simp), Nat.le_refl _⟩
          exact Heap.get?_push_of_some _ at0
        case fin =>
          intro s' L es ep t m T g k
          obtain ⟨h2, g2, d2, t2, o2⟩ := s'
          obtain rfl : g2 = s.gens := m.gens
          obtain rfl : d2 = s.drawn := m.drawn
          obtain rfl : o2 = s.os := m.os
          rw [isz] at g
          exact wpAny_pure (wpAny_pure ⟨rfl, h2, t2, L, es, ep, t, rfl, T, g, k⟩)
      · cases r₂ with
        | error e => exact hr₂
        | ok fl₂ =>
          cases fl₂ with
          | ret r =>
            obtain ⟨rfl, h2, tk, L, es, ep, t, rfl, T, g, k⟩ := hr₂
            repeat (any_goals (first | assumption | wp_step))
            exact hQ _ _ _ _ _ _ T g k
          | _ => exact hr₂.elim
    | _ => exact hr.elim
end
end G53

/-! The rules set(..) and sorted(..) over the abstract heap. -/
namespace G53
open PySem PySem.Spec PyProof.Rows L2

/-- the set at a, without the tuples themselves -/
def SetD (w : World) (a : Addr) (L : List Cel) : HO := .ext fun h => ∃ es ep t, Tab w h a L es ep t
theorem setD_ok {P : Program} {w : World} {H : Hp} {h : Heap} {a : Addr} {L : List Cel} {es : Array (Int × Value)} {ep : Nat} {t : SetTable} (T : Tab w h a L es ep t) : ObjOk P w H h a (SetD w a L) := by
  obtain ⟨o, ho, _⟩ := T.at_
  exact ⟨⟨es, ep, t, T⟩, ⟨o, ho⟩, fun h1 h2 ⟨es', ep', t', T'⟩ k => ⟨es', ep', t', T'.kept k⟩⟩
theorem refs_eq : ∀ {ks : List Cel} {us : List Value}, Vals (ks.map fun p => V.ref p.1) us → us = ks.map fun p => Value.ref p.1
  | [], _, .nil => rfl
  | p :: ks, _, .cons r t => by
    cases r
    rw [refs_eq t]
    rfl
theorem refs_v : ∀ ks : List Cel, Vals (ks.map fun p => V.ref p.1) (ks.map fun p => Value.ref p.1)
  | [] => .nil
  | _ :: ks => .cons rfl (refs_v ks)
/-- the tuples of a list of cells -/
abbrev cv (p : Cel) : V := .ref p.1
/-- each cell's tuple stands there -/
def Cels (H : Hp) (L : List Cel) : Prop := ∀ p ∈ L, DV H p.2 (.ref p.1)
theorem Cels.mono {H H' : Hp} {L : List Cel} (c : Cels H L) (t : Tk H H') : Cels H' L := fun p hp => (c p hp).mono t
theorem cels_dvs {H : Hp} : ∀ {L : List Cel}, Cels H L → DVs H (L.map (·.2)) (L.map cv)
  | [], _ => .nil
  | p :: L, c => .cons (c p List.mem_cons_self) (cels_dvs fun q hq => c q (List.mem_cons_of_mem _ hq))
theorem cels_of {H : Hp} : ∀ {ks : List NK} {vs : List V}, DVs H ks vs → (∀ k ∈ ks, ∃ l, k = .tup l) → ∃ L : List Cel, L.map (·.2) = ks ∧ L.map cv = vs ∧ Cels H L
  | [], _, h, _ => by
    cases h
    exact ⟨[], rfl, rfl, fun p hp => absurd hp (by simp)⟩
  | k :: ks, _, h, hk => by
    cases h with
    | @cons _ v _ vs d ds =>
      obtain ⟨L, e1, e2, c⟩ := cels_of ds fun x hx => hk x (List.mem_cons_of_mem _ hx)
      obtain ⟨l, rfl⟩ := hk k List.mem_cons_self
      cases d with
      | @tup a _ _ e ds' =>
        refine ⟨(a, .tup l) :: L, by rw [List.map_cons, e1], by rw [List.map_cons, e2], fun p hp => ?_⟩
        rcases List.mem_cons.mp hp with rfl | hp
        · exact .tup e ds'
        · exact c p hp
section
variable {X : Cx}
theorem Cels.here {pins : List (Addr × Obj)} {σ : L2.St} {H : Hp} {s : Shared} {L : List Cel} (I : Inv X pins σ H s) (c : Cels H L) (hd : ∀ p ∈ L, p.2.depth ≤ 8) : ∀ p ∈ L, Here s.heap p := fun p hp => ⟨(c p hp).raw I rfl, hd p hp⟩
/-- set(xs) -/
def rSetN (K : PySem.W.Frag) (w : World) : List V → Hp → VK → Prop := fun xs H Q => ∃ (l : Addr) (ks : List Cel), xs = [V.ref l] ∧ SqL K H l (ks.map cv) ∧ Cels H ks ∧ (∀ p ∈ ks, p.2.depth ≤ 8) ∧ ks.length < 64 ∧
  ∀ a L, H a = none → (∀ p ∈ L, p ∈ ks) → (∀ p ∈ ks, p.2 ∈ L.map (·.2)) → (L.map (·.2)).Nodup → L.length < 64 → Q (.ref a) (upd H a (SetD w a L))
theorem cr_setN (hc : X.calm = true) (hu : X.A.units + 64 < cLine) : CallR X (.type "set") (rSetN X.K X.w) := by
  intro pins s σ H xs us Q I r h
  obtain ⟨l, ks, rfl, hl, c, hd, few, q⟩ := h
  rw [Vals.ref1 r]
  obtain ⟨its, rv, pl, hz⟩ := I.list hl
  refine call_set (P := X.prog) (w := X.w) ks (I.ok.hd hc) pl.isList (by simpa using refs_eq rv) (c.here I hd) few (by omega) fun h' tk L es ep t T g k => ?_
  refine ⟨.ref s.heap.objs.size, upd H s.heap.objs.size (SetD X.w s.heap.objs.size L), I.laid (t' := tk) k (Nat.le_refl _) (setD_ok T), rfl, q _ L (I.hok.fresh (Nat.le_refl _)) (fun p hp => ?_) (fun p hp => ?_) T.once T.few⟩
  · exact List.mem_of_mem_take (g.sub p hp)
  · exact g.all p (by rw [List.take_length]; exact hp)
/-- sorted(xs): xs a list, a tuple, a set -/
def Src (K : PySem.W.Frag) (w : World) (H : Hp) (a : Addr) (L : List Cel) : Prop := SqL K H a (L.map cv) ∨ SqT K H a (L.map cv) ∨ H a = some (SetD w a L)
def rSortN (K : PySem.W.Frag) (w : World) (c : Bool) (rk : NK → Int) (Pk : NK → Prop) : List V → Hp → VK → Prop := fun xs H Q => ∃ (a : Addr) (L : List Cel), xs = [V.ref a] ∧ Src K w H a L ∧ Cels H L ∧ (∀ p ∈ L, Pk p.2) ∧ L.length < 64 ∧
  ∀ (p : Addr) (M : List Cel), H p = none → M.Perm L → M.Pairwise (fun x y => rk x.2 ≤ rk y.2) → Q (.ref p) (upd H p (.lst (M.map cv)))
/-- values that are the cells of L in another order -/
theorem cells_perm {h : Heap} {L : List Cel} (hL : ∀ p ∈ L, RK h p.2 (.ref p.1)) {out : List Value} (pm : out.Perm (L.map fun p => Value.ref p.1)) : ∃ M : List Cel, out = M.map (fun p => Value.ref p.1) ∧ M.Perm L := by
  have back : ∀ v, v ∈ L.map (fun p => Value.ref p.1) → ∃ a, v = Value.ref a ∧ (a, keyOf h v) ∈ L := fun v hv => by
    obtain ⟨p, hp, rfl⟩ := List.mem_map.mp hv
    refine ⟨p.1, rfl, ?_⟩
    rw [keyOf_eq (hL p hp)]
    exact hp
  let f : Value → Cel := fun v => (match v with | .ref a => a | _ => 0, keyOf h v)
  have fL : L.map (fun p => f (Value.ref p.1)) = L := by
    have key : ∀ l : List Cel, (∀ p ∈ l, p ∈ L) → l.map (fun p => f (Value.ref p.1)) = l := by
      intro l
      induction l with
      | nil => exact fun _ => rfl
      | cons p l ih =>
        intro hl
        rw [List.map_cons, ih fun q hq => hl q (List.mem_cons_of_mem _ hq)]
        have e : f (Value.ref p.1) = p := by
          show (p.1, keyOf h (Value.ref p.1)) = p
          rw [keyOf_eq (hL p (hl p List.mem_cons_self))]
        rw [e]
    exact key L fun p hp => hp
  refine ⟨out.map f, ?_, ?_⟩
  · rw [List.map_map]
    have key : ∀ l : List Value, (∀ v ∈ l, v ∈ L.map fun p => Value.ref p.1) → l = l.map ((fun p : Cel => Value.ref p.1) ∘ f) := by
      intro l
      induction l with
      | nil => exact fun _ => rfl
      | cons v l ih =>
        intro hl
        obtain ⟨a, rfl, _⟩ := back v (hl v List.mem_cons_self)
        rw [List.map_cons, ← ih fun q hq => hl q (List.mem_cons_of_mem _ hq)]
        rfl
    exact key out fun v hv => pm.mem_iff.mp hv
  · have z := pm.map f
    rw [List.map_map] at z
    have e : L.map (f ∘ fun p => Value.ref p.1) = L := fL
    rw [e] at z
    exact z
theorem cr_sortN {c : Bool} {rk : NK → Int} {Pk : NK → Prop} (R : Ranked c rk Pk) (hc : X.calm = true) (hu : X.A.units + 64 < cLine) : CallR X (.builtin "sorted") (rSortN X.K X.w c rk Pk) := by
  intro pins s σ H xs us Q I r h
  obtain ⟨a, L, rfl, src, cs, hk, few, q⟩ := h
  rw [Vals.ref1 r]
  have raw : ∀ p ∈ L, RK s.heap p.2 (.ref p.1) := fun p hp => (cs p hp).rk I rfl
  refine sorted_data (s := s) R (Pv := fun vs => vs.Perm (L.map fun p => Value.ref p.1)) (by omega) (fun Q' hQ' => ?_) (fun vs pv => ⟨by rw [pv.length_eq, List.length_map]; exact few, fun v hv => ?_⟩) fun s1 s' p out m vs k1 k2 g o lt hm pv pm pw => ?_
  · rcases src with src | src | src
    · obtain ⟨its, rv, ⟨o, n, ho, ho1, ho2, ho3⟩, hz⟩ := I.list src
      refine wpAny_collect_seq a (.inl rfl) ho ho1 ho3 (fun h' k => hQ' { s with heap := h' } _ k rfl rfl ?_) (by rw [List.size_toArray, ← rv.length]; exact hz)
      rw [refs_eq rv]
    · obtain ⟨its, rv, ⟨o, ho, ho1, n, ho3⟩, hz⟩ := I.tuple src
      refine wpAny_collect_seq a (.inr rfl) ho ho1 ho3 (fun h' k => hQ' { s with heap := h' } _ k rfl rfl ?_) (by rw [List.size_toArray, ← rv.length]; exact hz)
      rw [refs_eq rv]
    · obtain ⟨⟨es, ep, t, T⟩, _⟩ := I.hok a _ src
      obtain ⟨o, ho, hex, hd⟩ := T.at_
      have sz := size_of T.rows
      refine collect_set (A := X.A.in1) (by rw [Around.in1_handled]; exact I.ok.hd hc) ⟨o, ho, hex.1, hd⟩ T.fits (by unfold scanBound; omega) T.ok.ris T.led fun s1 out k _ g o pm => hQ' s1 out k g o ?_
      rw [T.rows, List.map_map] at pm
      exact pm
  · obtain ⟨p, hp, rfl⟩ := List.mem_map.mp (pv.mem_iff.mp hv)
    exact ⟨p.2, hk p hp, raw p hp⟩
  · obtain ⟨M, e, pmM⟩ := cells_perm raw (pm.trans pv)
    have I1 : Inv X pins σ H { s with heap := s1.heap, toks := s1.toks } := I.kept k1
    have hn : H p = none := I1.hok.fresh lt
    have hv : Vals (M.map cv) out.toList := by
      rw [e]
      exact refs_v M
    have hz : (M.map cv).length ≤ sizeLine := by
      rw [List.length_map, pmM.length_eq, sizeLine_eq]
      omega
    have J : Inv X pins σ (upd H p (.lst (M.map cv))) { s with heap := s'.heap, gens := s'.gens, drawn := s'.drawn, toks := s'.toks } :=
      Inv.call (s := { s with heap := s1.heap, toks := s1.toks }) (ch := []) I1 (Un.laid k2 lt hn) (I1.hok.laid k2 lt ⟨hz, out.toList, m, hv, hm⟩) (by rw [g]; exact I.bare) (fun _ z => nomatch z)
    have es : s' = { s with heap := s'.heap, gens := s'.gens, drawn := s'.drawn, toks := s'.toks } := by
      cases s'
      cases s
      cases o
      rfl
    rw [es]
    refine ⟨.ref p, _, J, rfl, q p M hn pmM ?_⟩
    rw [e, List.pairwise_map] at pw
    refine List.Pairwise.imp_of_mem (fun {x y} hx hy le => ?_) pw
    rw [keyOf_eq (raw x (pmM.mem_iff.mp hx)), keyOf_eq (raw y (pmM.mem_iff.mp hy))] at le
    exact le
end
end G53

/-! len(o) by an own __len__; min, max of two tuples; enumerate(tuple). -/
namespace G53
open PySem PySem.Spec PyProof.Rows L2

section
variable {X : Cx} {k : Nat} {C g : Addr} {fd : FuncData} {ps : List Str} {sp : Sp}
/-- len(o) -/
def rLenOwn (C : Addr) (sp : Sp) : List V → Hp → VK → Prop := fun xs H Q => ∃ a dx fs, xs = [V.ref a] ∧ H a = some (.ins C dx fs) ∧ sp [V.ref a] H (fun z H' => ∃ n : Nat, z = .int n ∧ n < 2 ^ 62 ∧ Q (.int n) H') E0
theorem call_lenOwn (hs : PySem.W.findIn X.K (.ref C) "__len__" = some (some (.ref g))) (hf : PySem.W.isFn X.K (.ref g) = true) (F : FnOk X.prog X.w X.K X.mg X.base CX0 k g fd ps sp) (hr : Room (k + 1) X.A) (hb : Binds X.K fd ps []) : CallR X (.builtin "len") (rLenOwn C sp) := by
  intro pins s σ H xs us Q I r h
  obtain ⟨a, dx, fs, rfl, ea, h⟩ := h
  obtain ⟨u, rfl, ru⟩ := vals1 r
  cases ru
  obtain ⟨mA, O, _, _, _, _⟩ := ins_get I.hok ea
  obtain ⟨od, J, _⟩ := O.look
  obtain ⟨m, Fm⟩ := I.fr
  have hl : ([Value.ref a] ++ ([] : List Value)).length = ps.length := by
    rw [← F.len _ _ _ _ h]
    rfl
  refine PySem.W.len_K Fm I.mod.kin J hs hf (wpAny_call (codeAny_mono (F.run X.A.in1 X.stack s H ⟨[.ref a], []⟩ [.ref a] [.ref a] _ E0 hr.in1 I.env0.in1 (hb s [.ref a] I.kIn hl) (.cons rfl .nil) h) fun r s' hq => ?_))
  cases r with
  | error er => exact hq.elim
  | ok fl =>
    cases fl with
    | ret u =>
      obtain ⟨v, H', I3, rv, n, rfl, lt, q⟩ := I.after hq
      obtain ⟨t, rfl⟩ := rv
      refine ⟨⟨Int.natCast_nonneg n, ?_⟩, .int n, H', I3.tok _, ⟨_, rfl⟩, q⟩
      have z : (2 : Nat) ^ 62 < 2 ^ 63 := by decide
      have z2 : (n : Int) < ((2 ^ 63 : Nat) : Int) := Int.ofNat_lt.mpr (Nat.lt_trans lt z)
      exact z2
    | next => exact hq.elim
    | brk => exact hq.elim
    | cont => exact hq.elim
end

/-! ### enumerate(t) -/
theorem enum_new (l : Addr) (items : Array Value) (n : Nat) (dct : Option Addr) (sl : Array (Option Value)) :
    Meets (Builtin.«enumerate.__new__» ⟨[.type "enumerate", .ref l], []⟩) (fun _ R s => s.heap.get? l = some { cls := .type "tuple", dict := dct, data := .seq items n, slots := sl } ∧
      R (.ok (.ret (.ref (s.heap.push { cls := .type "tuple_iterator", data := .fields #[.ref l, .int 0 0] }).objs.size)))
        { s with heap := (s.heap.push { cls := .type "tuple_iterator", data := .fields #[.ref l, .int 0 0] }).push { cls := .type "enumerate", data := .fields #[.none, .bool false, .ref s.heap.objs.size, rawInt 0, .none, .none] } }) :=
  .of_wp fun prog w A R s h => by
    obtain ⟨hp, gs, dr, tk, os⟩ := s
    obtain ⟨hl, h⟩ := h
    have sub := sub_enumerate
    have tu : Heap.IsTuple (Shared.heap ⟨hp, gs, dr, tk, os⟩) l items := ⟨_, hl, rfl, n, rfl⟩
    wp_walk using AutoSeq1.wpAny_loadPart' hl
    refine wpAny_stack_any fun st => wpAny_pure ?_
    split
    · rename_i c _ _ _ _ _
      cases (c == Value.type "enumerate")
      · wp_walk using AutoSeq1.wpAny_loadPart' hl, wpAny_pyIter_tuple tu
        exact ⟨_, rfl, h⟩
      · wp_walk using AutoSeq1.wpAny_loadPart' hl, wpAny_pyIter_tuple tu
        exact ⟨_, rfl, h⟩
    · wp_walk using AutoSeq1.wpAny_loadPart' hl, wpAny_pyIter_tuple tu
      exact ⟨_, rfl, h⟩
theorem call_enum {prog : Program} {w : World} {A : Around} {E : Value → Shared → Prop} {s : Shared} {l : Addr} {items : Array Value} {Q : Value → Shared → Prop} (hL : s.heap.IsTuple l items)
    (h : ∀ h', IsEnum h' (s.heap.objs.size + 1) s.heap.objs.size 0 .none → h'.IsTupleIter s.heap.objs.size l 0 → (∀ b o, s.heap.get? b = some o → h'.get? b = some o) → Q (.ref (s.heap.objs.size + 1)) { s with heap := h' }) :
    wpAny (model prog w) A (call (.type "enumerate") [.ref l]) Q E s := by
  obtain ⟨⟨c, dct, dt, sl⟩, hl, hc, n, hd⟩ := hL
  simp only at hc hd
  subst hc hd
  refine callType_new F.called_enumerate (by decide) (F.typeCall_enumerate_1 _) (F.newCall_enumerate_1 _) (fun obj => F.args_object_init_2 obj _) F.entry_enumerate_new (enum_new l items n dct sl) ⟨hl, ?_⟩
  generalize ho : ({ cls := .type "tuple_iterator", data := .fields #[.ref l, .int 0 0] } : Obj) = o
  have z : (s.heap.push o).objs.size = s.heap.objs.size + 1 := Heap.size_push ..
  show _ ∧ _
  rw [z]
  have he : IsEnum ((s.heap.push o).push { cls := .type "enumerate", data := .fields #[.none, .bool false, .ref s.heap.objs.size, rawInt 0, .none, .none] }) (s.heap.objs.size + 1) s.heap.objs.size 0 .none := by
    have q := Heap.get?_push_size (s.heap.push o) (o := { cls := .type "enumerate", data := .fields #[.none, .bool false, .ref s.heap.objs.size, rawInt 0, .none, .none] }) rfl
    rw [z] at q
    exact q
  refine ⟨⟨_, he, rfl⟩, h _ he ⟨o, Heap.get?_push_of_some _ (Heap.get?_push_size _ (by rw [← ho]; rfl)), (by rw [← ho]), (by rw [← ho]; rfl)⟩ fun b u e => Heap.get?_push_of_some _ (Heap.get?_push_of_some _ e)⟩
/-- the tuple at a, its items in new pairs -/
def ItE (K : PySem.W.Frag) (a : Addr) : It :=
  ⟨fun i H => ∃ xs x, SqT K H a xs ∧ xs[i]? = some x, fun i H v H' => ∃ T x, v = .ref T ∧ H T = none ∧ H' = upd H T (.tup [.int (i : Nat), x]) ∧ ∀ xs, SqT K H a xs → xs[i]? = some x, fun i H => ∃ xs, SqT K H a xs ∧ xs.length = i⟩
theorem turn_enumT {P : Program} {w : World} {K : PySem.W.Frag} {elts : List Expr} {kk : Nat} {tpos : Pos} (a e it : Addr) :
    Turn P w K (.Tuple elts kk tpos) (ItE K a) [e, it] e (fun i h => (∃ old, IsEnum h e it ((i : Nat) : Int) old) ∧ h.IsTupleIter it a i ∧ e ≠ it) where
  mem := List.mem_cons_self
  obj := fun i h st b hb => by
    obtain ⟨⟨old, he⟩, ⟨o, ho, hc, hd⟩, _⟩ := st
    rcases List.mem_cons.mp hb with z | z
    · rw [z]
      exact ⟨_, he, fun v q => by cases q⟩
    · rw [List.mem_singleton.mp z]
      exact ⟨o, ho, fun v q => by rw [hd] at q; cases q⟩
  keep := fun i h h' st k => let ⟨⟨old, he⟩, hi, ne⟩ := st; ⟨⟨old, k e List.mem_cons_self _ he⟩, hi.at fun o q => k it (List.mem_cons_of_mem _ List.mem_cons_self) o q, ne⟩
  item := by
    intro X hP hw hK hc i pins s σ H E I hf st hg
    subst hP hw hK
    obtain ⟨⟨old, he⟩, hit, ne⟩ := st
    obtain ⟨xs, x, hq, hx⟩ := hg
    obtain ⟨its, rv, tu, hz⟩ := I.tuple hq
    obtain ⟨u, hu, ru⟩ := rv.get hx
    have lte : e < s.heap.objs.size := Heap.lt_size he
    have lti : it < s.heap.objs.size := let ⟨_, q, _⟩ := hit; Heap.lt_size q
    have hat : a ≠ it := by
      rintro rfl
      obtain ⟨o1, q1, q2, _⟩ := hit
      obtain ⟨o2, r1, r2, _⟩ := tu
      rw [q1] at r1
      cases r1
      rw [q2] at r2
      exact absurd r2 (by decide)
    have hae : e ∉ [it, a] := by
      intro z
      rcases List.mem_cons.mp z with z | z
      · exact ne z
      · rw [List.mem_singleton.mp z] at he
        obtain ⟨o2, r1, r2, _⟩ := tu
        have he' : s.heap.get? a = _ := he
        rw [he'] at r1
        cases r1
        have r3 : Value.type "enumerate" = Value.type "tuple" := r2
        exact absurd r3 (by decide)
    have hi : i < its.toArray.size := by
      rw [List.size_toArray]
      exact (List.getElem?_eq_some_iff.mp hu).1
    refine wpAny_pyNext_enum_itemD (Draws.tuple (prog := X.prog) (w := X.w) (A := X.A.in1) (by rw [Around.in1_handled]; exact I.ok.hd hc) it a hat its.toArray) he ⟨hit, tu⟩ hi ne hae fun y h' tk hy ho st' hT hsz hk => ?_
    obtain rfl : y = u := by
      rw [← Array.getElem?_toList] at hy
      exact Option.some.inj (hy.symm.trans hu)
    refine ⟨_, rfl, wpAny_letOwnedTupleGo_enum (s := { s with heap := h', toks := tk + 1 }) ho fun h2 he2 sb => ?_⟩
    have tup2 : h2.get? s.heap.objs.size = some { cls := .type "tuple", data := .seq #[.int i tk, y] } := (sb.2 _ (Nat.ne_of_gt lte)).trans hT
    have new : ObjOk X.prog X.w (upd H s.heap.objs.size (.tup [.int (i : Nat), x])) h2 s.heap.objs.size (.tup [.int (i : Nat), x]) := ⟨by show 2 ≤ sizeLine; decide, [.int i tk, y], .cons ⟨_, rfl⟩ (.cons ru .nil), ⟨_, tup2, rfl, _, rfl⟩⟩
    have I1 : Inv X pins σ (upd H s.heap.objs.size (.tup [.int (i : Nat), x])) { s with heap := h2, toks := tk + 1 } :=
      I.turnedNew (ch := [e, it]) (fun b ob hb q => (sb.2 b fun z => hb (by simp [z])).trans (hk b ob (fun z => hb (by simp [z])) (fun z => hb (by simp [z])) q)) hf (Nat.le_refl _) new
    refine ⟨.ref s.heap.objs.size, _, I1, rfl, ⟨_, x, rfl, I.hok.fresh (Nat.le_refl _), rfl, fun ys hy2 => by rw [I.tuple_inj hy2 hq]; exact hx⟩, ⟨⟨y, ?_⟩, st'.1.at fun o q => (sb.2 it (Ne.symm ne)).trans q, ne⟩, fun b hb => ?_⟩
    · rw [show ((i + 1 : Nat) : Int) = (i : Int) + 1 by omega]
      exact he2
    · have ltb : b < s.heap.objs.size := by
        rcases List.mem_cons.mp hb with z | z
        · rw [z]; exact lte
        · rw [List.mem_singleton.mp z]; exact lti
      rw [upd_ne (Nat.ne_of_lt ltb)]
      exact (hf b hb).1
  done := by
    intro X hP hw hK hc i pins s σ H E I hf st hg
    subst hP hw hK
    obtain ⟨⟨old, he⟩, hit, ne⟩ := st
    obtain ⟨xs, hq, hx⟩ := hg
    obtain ⟨its, rv, tu, hz⟩ := I.tuple hq
    obtain ⟨f0, f1, f2, f3, f4, f5⟩ := hf it (List.mem_cons_of_mem _ List.mem_cons_self)
    have hat : a ≠ it := by
      rintro rfl
      obtain ⟨o1, q1, q2, _⟩ := hit
      obtain ⟨o2, r1, r2, _⟩ := tu
      rw [q1] at r1
      cases r1
      rw [q2] at r2
      exact absurd r2 (by decide)
    have en : its.toArray.size = i := by rw [List.size_toArray, ← rv.length, hx]
    exact wpAny_pyNext_enum_endD (Draws.tuple (prog := X.prog) (w := X.w) (A := X.A.in1) (by rw [Around.in1_handled]; exact I.ok.hd hc) it a hat its.toArray) he (by rw [en]; exact ⟨hit, tu⟩) fun h' eb => ⟨rfl, I.turned (t' := s.toks) (fun b o hb q => eb b o hb q) f0 f1 f3 f4 f5⟩
  self := fun A i s Q E st h => let ⟨⟨_, he⟩, _⟩ := st; wpAny_pyIter_enum he h
def iEnumT (K : PySem.W.Frag) (ta : TA) : TI := fun σ H R => ta σ H fun vs H1 => ∃ a xs, vs = [.ref a] ∧ SqT K H1 a xs ∧ R (ItE K a) H1
theorem pi_enumT {X : Cx} {e : Expr} {ta : TA} {p pos tpos : Pos} {elts : List Expr} {kk : Nat} (hg : Gl X "enumerate") (hm : X.mg "enumerate" = none) (ha : PA X [e] ta) (hs : starEach [e] X.env = [(false, eval e X.env)] := by rfl) :
    PI X (.Tuple elts kk tpos) (.Call (.Name "enumerate" p) [e] [] pos) (iEnumT X.K ta) := by
  refine ⟨fun pins s σ H R I h => ?_⟩
  refine Call_ (ld_blt I hg hm boot_enumerate (PyProof.Rows.callWith_type1 (thn (ha.run pos pins s σ H _ I h) fun us s1 ⟨vs, H1, I1, r1, a, xs, ex, hq, q⟩ => ?_) hs rfl))
  subst ex
  obtain ⟨u, rfl, ru⟩ := vals1 r1
  cases ru
  obtain ⟨its, rv, tu, hz⟩ := I1.tuple hq
  refine call_enum tu fun h' he hit hk => wpAny_pyIter_enum he ?_
  have I2 : Inv X pins σ H1 { s1 with heap := h' } := I1.kept (t' := s1.toks) hk
  refine ⟨s1.heap.objs.size + 1, [s1.heap.objs.size + 1, s1.heap.objs.size], _, _, H1, rfl, I2, turn_enumT a (s1.heap.objs.size + 1) s1.heap.objs.size, ⟨⟨.none, he⟩, hit, Nat.succ_ne_self _⟩, fun b hb => ?_, q⟩
  have le : s1.heap.objs.size ≤ b := by
    rcases List.mem_cons.mp hb with z | z
    · rw [z]; exact Nat.le_succ _
    · rw [List.mem_singleton.mp z]; exact Nat.le_refl _
  exact I1.fpOk le (I1.hok.fresh le)
end G53

/-! min(t, u), max(t, u) of two tuples. -/
namespace G53
open PySem PySem.Spec PyProof.Rows L2
section
variable {prog : Program} {w : World} {A : Around} {E : Value → Shared → Prop} {s : Shared}

/-- the loop of min over a pair: k says whether the second is better -/
theorem min_pair {R : Result → Shared → Prop} {a b I S T : Addr} {k : Bool} {c : Nat} (hh : A.handled = none) (hI : s.heap.IsTupleIter I T 0) (hT : s.heap.IsTuple T #[.ref a, .ref b]) (hS : s.heap.get? S = some { cls := .type "list", dict := none, data := .seq #[] c, slots := #[] })
    (IT : I ≠ T) (IS : I ≠ S) (ST : S ≠ T) (cmp : ∀ s' : Shared, (∀ x o, x ≠ I → x ≠ S → s.heap.get? x = some o → s'.heap.get? x = some o) → Ob.RcOp .Lt A.in1 s' (.ref b) (.ref a) k)
    (hR : ∀ h' tk, (∀ x o, x ≠ I → x ≠ S → s.heap.get? x = some o → h'.get? x = some o) → R (.ok (.ret (.ref (if k = true then b else a)))) { s with heap := h', toks := tk }) :
    codeAny (model prog w) A (.builtin "min.loop" ⟨[.ref I, .none, .ref S], []⟩) R s := by
  have hn : (toString "min" ++ toString ".loop" : String) = "min.loop" := by decide
  have hA : A.in1.handled = none := by
    rw [Around.in1_handled]
    exact hh
  refine codeAny_builtin F.entry_min_loop ?_
  rw [Around.under_plainId F.plain_min_loop _]
  refine wpAny_bind (m := seqItems? (.ref S)) (wpAny_seqItems hS rfl ?_)
  show wpAny _ A.in1 (tryCatch (pyNext (.ref I)) _ >>= _) _ _ s
  refine wpAny_bind (wpAny_tryCatch (wpAny_pyNext_tuple_item hI hT (x := .ref a) rfl fun h1 I1 b1 => ?_))
  have S1 := (b1.2 S IS.symm).trans hS
  have T1 : h1.IsTuple T #[.ref a, .ref b] := hT.extBut b1.extBut IT.symm
  refine wpAny_bind (m := updateSeq S (fun _ => #[.ref a, .ref a])) (wpAny_updateSeq S1 rfl ?_)
  rw [hn]
  have S2 := Heap.get?_update_self (Obj.mapSeq fun _ => #[Value.ref a, Value.ref a]) S1 rfl
  have u2 : ∀ x o, x ≠ S → h1.get? x = some o → (h1.update S (Obj.mapSeq fun _ => #[Value.ref a, Value.ref a])).get? x = some o := fun x o q e => (Heap.get?_update_other _ _ (Ne.symm q)).trans e
  generalize h1.update S (Obj.mapSeq fun _ => #[Value.ref a, Value.ref a]) = h2 at S2 u2 ⊢
  have I2 : h2.IsTupleIter I T 1 := I1.at fun o e => u2 I o IS e
  have T2 : h2.IsTuple T #[.ref a, .ref b] := let ⟨o, e, r⟩ := T1; ⟨o, u2 T o ST.symm e, r⟩
  have k2 : ∀ x o, x ≠ I → x ≠ S → s.heap.get? x = some o → h2.get? x = some o := fun x o q1 q2 e => u2 x o q2 ((b1.2 x q1).trans e)
  clear u2 T1 S1 b1 I1
  refine wpAny_pure ⟨plainId_quiet F.plain_min_loop _, ?_⟩
  refine codeAny_builtin F.entry_min_loop ?_
  rw [Around.under_plainId F.plain_min_loop _]
  refine wpAny_bind (m := seqItems? (.ref S)) (wpAny_seqItems S2 rfl ?_)
  show wpAny _ A.in1 (tryCatch (pyNext (.ref I)) _ >>= _) _ _ _
  refine wpAny_bind (wpAny_tryCatch (wpAny_pyNext_tuple_item I2 T2 (x := .ref b) rfl fun h3 I3 b3 => ?_))
  have S3 := (b3.2 S IS.symm).trans S2
  have T3 : h3.IsTuple T #[.ref a, .ref b] := T2.extBut b3.extBut IT.symm
  have k3 : ∀ x o, x ≠ I → x ≠ S → s.heap.get? x = some o → h3.get? x = some o := fun x o q1 q2 e => (b3.2 x q1).trans (k2 x o q1 q2 e)
  show wpAny _ A.in1 (tryCatch (holding [Value.ref b, Value.ref b] (richCompare .Lt (.ref b) (.ref a) >>= _)) _ >>= _) _ _ _
  refine wpAny_bind (wpAny_tryCatch (wpAny_holding (wpAny_bind (cmp { s with heap := h3 } k3 prog w _ _ ?_))))
  refine wpAny_bind (wpAny_holding (wpAny_truthy_bool (wpAny_bind (wpAny_letGo (wpAny_pure ?_)))))
  have fin : ∀ (h4 : Heap) (r : Addr) (tk c' : Nat), h4.IsTupleIter I T 2 → h4.IsTuple T #[.ref a, .ref b] → h4.get? S = some { cls := .type "list", dict := none, data := .seq #[.ref r, .ref r] c', slots := #[] } →
      (∀ x o, x ≠ I → x ≠ S → s.heap.get? x = some o → h4.get? x = some o) → r = (if k = true then b else a) → codeAny (model prog w) A (.builtin "min.loop" ⟨[.ref I, .none, .ref S], []⟩) R { s with heap := h4, toks := tk } := by
    intro h4 r tk c' I4 T4 S4 k4 er
    refine codeAny_builtin F.entry_min_loop ?_
    rw [Around.under_plainId F.plain_min_loop _]
    refine wpAny_bind (m := seqItems? (.ref S)) (wpAny_seqItems S4 rfl ?_)
    show wpAny _ A.in1 (tryCatch (pyNext (.ref I)) _ >>= _) _ _ _
    refine wpAny_bind (wpAny_tryCatch (wpAny_pyNext_tuple_end hA I4 T4 rfl fun h5 b5 => ?_))
    have S5 := b5 S _ IS.symm S4
    refine wpAny_bind (m := updateSeq S (fun _ => #[])) (wpAny_updateSeq S5 rfl (wpAny_bind (wpAny_letGo (wpAny_pure ?_))))
    rw [er]
    exact hR _ tk fun x o q1 q2 e => (Heap.get?_update_other _ _ (Ne.symm q2)).trans (b5 x o q1 (k4 x o q1 q2 e))
  cases k with
  | true =>
    simp only [if_true]
    refine wpAny_bind (m := updateSeq S (fun _ => #[.ref b, .ref b])) (wpAny_updateSeq S3 rfl (wpAny_bind (wpAny_letGo ?_)))
    rw [hn]
    have u4 : ∀ x o, x ≠ S → h3.get? x = some o → (h3.update S (Obj.mapSeq fun _ => #[Value.ref b, Value.ref b])).get? x = some o := fun x o q e => (Heap.get?_update_other _ _ (Ne.symm q)).trans e
    refine wpAny_pure ⟨plainId_quiet F.plain_min_loop _, fin _ b _ _ (I3.at fun o e => u4 I o IS e) (let ⟨o, e, r⟩ := T3; ⟨o, u4 T o ST.symm e, r⟩) (Heap.get?_update_self _ S3 rfl) (fun x o q1 q2 e => u4 x o q2 (k3 x o q1 q2 e)) rfl⟩
  | false =>
    simp only [Bool.false_eq_true, if_false]
    refine wpAny_bind (wpAny_letGo ?_)
    rw [hn]
    exact wpAny_pure ⟨plainId_quiet F.plain_min_loop _, fin h3 a _ _ I3 T3 S3 k3 rfl⟩
/-- min(t, u) -/
theorem call_min {a b : Addr} {k : Bool} {Q : Value → Shared → Prop} (hh : A.handled = none) (cmp : ∀ (A' : Around) (s' : Shared), A'.units ≤ A.units + 2 → (∀ x o, s.heap.get? x = some o → s'.heap.get? x = some o) → Ob.RcOp .Lt A' s' (.ref b) (.ref a) k)
    (h : ∀ h' tk, (∀ x o, s.heap.get? x = some o → h'.get? x = some o) → Q (.ref (if k = true then b else a)) { s with heap := h', toks := tk }) : wpAny (model prog w) A (call (.builtin "min") [.ref a, .ref b]) Q E s := by
  have hn : (toString "min" ++ toString ".loop" : String) = "min.loop" := by decide
  refine call_function_tree F.kind_min F.plain_min F.entry_min (F.args_min2 _ _) ?_
  show wpAny _ A.in1 (Builtin.Builtins.bindParams "min" ["key", "default"] 0 ⟨[], []⟩ >>= _) _ _ s
  refine wpAny_bind (wpAny_of_eq (show Builtin.Builtins.bindParams "min" ["key", "default"] 0 ⟨[], []⟩ = pure [none, none] from rfl) ?_)
  show wpAny _ A.in1 (newTuple [.ref a, .ref b] >>= _) _ _ s
  refine wpAny_bind (wpAny_newObj_type ?_)
  generalize ho : ({ cls := .type "tuple", data := .seq ([.ref a, .ref b] : List Value).toArray } : Obj) = o
  have hT : (s.heap.push o).IsTuple s.heap.objs.size #[.ref a, .ref b] := ⟨o, Heap.get?_push_size _ (by rw [← ho]; rfl), (by rw [← ho]), 0, (by rw [← ho])⟩
  have z1 : (s.heap.push o).objs.size = s.heap.objs.size + 1 := Heap.size_push ..
  refine wpAny_bind (wpAny_pyIter_tuple hT ?_)
  generalize ho2 : ({ cls := .type "tuple_iterator", data := .fields #[.ref s.heap.objs.size, .int 0 0] } : Obj) = o2
  have z2 : ((s.heap.push o).push o2).objs.size = s.heap.objs.size + 2 := by rw [Heap.size_push, z1]
  refine wpAny_bind (wpAny_newObj_type ?_)
  rw [hn]
  refine wpAny_pure ⟨plainId_quiet F.plain_min_loop _, ?_⟩
  rw [z1, z2]
  generalize ho3 : ({ cls := .type "list", data := .seq ([] : List Value).toArray } : Obj) = o3
  have old : ∀ x u, s.heap.get? x = some u → (((s.heap.push o).push o2).push o3).get? x = some u := fun x u e => Heap.get?_push_of_some _ (Heap.get?_push_of_some _ (Heap.get?_push_of_some _ e))
  have at2 : ((s.heap.push o).push o2).get? (s.heap.objs.size + 1) = some o2 := by
    rw [← z1]
    exact Heap.get?_push_size _ (by rw [← ho2]; rfl)
  have at3 : (((s.heap.push o).push o2).push o3).get? (s.heap.objs.size + 2) = some o3 := by
    rw [← z2]
    exact Heap.get?_push_size _ (by rw [← ho3]; rfl)
  have lt : ∀ x u, s.heap.get? x = some u → x ≠ s.heap.objs.size + 1 ∧ x ≠ s.heap.objs.size + 2 := fun x u e => by
    have q : x < s.heap.objs.size := Heap.lt_size e
    exact ⟨Nat.ne_of_lt (Nat.lt_succ_of_lt q), Nat.ne_of_lt (Nat.lt_succ_of_lt (Nat.lt_succ_of_lt q))⟩
  refine min_pair (s := { s with heap := ((s.heap.push o).push o2).push o3 }) (T := s.heap.objs.size) (k := k) (by rw [Around.in1_handled]; exact hh) ⟨o2, Heap.get?_push_of_some _ at2, (by rw [← ho2]), (by rw [← ho2]; rfl)⟩ ((hT.push _).push _) (by rw [at3, ← ho3])
    (Nat.succ_ne_self _) (Nat.ne_of_lt (Nat.lt_succ_self _)) (Nat.ne_of_gt (Nat.lt_succ_of_lt (Nat.lt_succ_self _))) (fun s' k' => cmp _ s' (by rw [Around.in1_units]; omega) fun x u e => k' x u (lt x u e).1 (lt x u e).2 (old x u e)) fun h' tk k' => ?_
  exact h h' tk fun x u e => k' x u (lt x u e).1 (lt x u e).2 (old x u e)

/-- the loop of max over a pair: k says whether the second is better -/
theorem max_pair {R : Result → Shared → Prop} {a b I S T : Addr} {k : Bool} {c : Nat} (hh : A.handled = none) (hI : s.heap.IsTupleIter I T 0) (hT : s.heap.IsTuple T #[.ref a, .ref b]) (hS : s.heap.get? S = some { cls := .type "list", dict := none, data := .seq #[] c, slots := #[] })
    (IT : I ≠ T) (IS : I ≠ S) (ST : S ≠ T) (cmp : ∀ s' : Shared, (∀ x o, x ≠ I → x ≠ S → s.heap.get? x = some o → s'.heap.get? x = some o) → Ob.RcOp .Gt A.in1 s' (.ref b) (.ref a) k)
    (hR : ∀ h' tk, (∀ x o, x ≠ I → x ≠ S → s.heap.get? x = some o → h'.get? x = some o) → R (.ok (.ret (.ref (if k = true then b else a)))) { s with heap := h', toks := tk }) :
    codeAny (model prog w) A (.builtin "max.loop" ⟨[.ref I, .none, .ref S], []⟩) R s := by
  have hn : (toString "max" ++ toString ".loop" : String) = "max.loop" := by decide
  have hA : A.in1.handled = none := by
    rw [Around.in1_handled]
    exact hh
  refine codeAny_builtin F.entry_max_loop ?_
  rw [Around.under_plainId F.plain_max_loop _]
  refine wpAny_bind (m := seqItems? (.ref S)) (wpAny_seqItems hS rfl ?_)
  show wpAny _ A.in1 (tryCatch (pyNext (.ref I)) _ >>= _) _ _ s
  refine wpAny_bind (wpAny_tryCatch (wpAny_pyNext_tuple_item hI hT (x := .ref a) rfl fun h1 I1 b1 => ?_))
  have S1 := (b1.2 S IS.symm).trans hS
  have T1 : h1.IsTuple T #[.ref a, .ref b] := hT.extBut b1.extBut IT.symm
  refine wpAny_bind (m := updateSeq S (fun _ => #[.ref a, .ref a])) (wpAny_updateSeq S1 rfl ?_)
  rw [hn]
  have S2 := Heap.get?_update_self (Obj.mapSeq fun _ => #[Value.ref a, Value.ref a]) S1 rfl
  have u2 : ∀ x o, x ≠ S → h1.get? x = some o → (h1.update S (Obj.mapSeq fun _ => #[Value.ref a, Value.ref a])).get? x = some o := fun x o q e => (Heap.get?_update_other _ _ (Ne.symm q)).trans e
  generalize h1.update S (Obj.mapSeq fun _ => #[Value.ref a, Value.ref a]) = h2 at S2 u2 ⊢
  have I2 : h2.IsTupleIter I T 1 := I1.at fun o e => u2 I o IS e
  have T2 : h2.IsTuple T #[.ref a, .ref b] := let ⟨o, e, r⟩ := T1; ⟨o, u2 T o ST.symm e, r⟩
  have k2 : ∀ x o, x ≠ I → x ≠ S → s.heap.get? x = some o → h2.get? x = some o := fun x o q1 q2 e => u2 x o q2 ((b1.2 x q1).trans e)
  clear u2 T1 S1 b1 I1
  refine wpAny_pure ⟨plainId_quiet F.plain_max_loop _, ?_⟩
  refine codeAny_builtin F.entry_max_loop ?_
  rw [Around.under_plainId F.plain_max_loop _]
  refine wpAny_bind (m := seqItems? (.ref S)) (wpAny_seqItems S2 rfl ?_)
  show wpAny _ A.in1 (tryCatch (pyNext (.ref I)) _ >>= _) _ _ _
  refine wpAny_bind (wpAny_tryCatch (wpAny_pyNext_tuple_item I2 T2 (x := .ref b) rfl fun h3 I3 b3 => ?_))
  have S3 := (b3.2 S IS.symm).trans S2
  have T3 : h3.IsTuple T #[.ref a, .ref b] := T2.extBut b3.extBut IT.symm
  have k3 : ∀ x o, x ≠ I → x ≠ S → s.heap.get? x = some o → h3.get? x = some o := fun x o q1 q2 e => (b3.2 x q1).trans (k2 x o q1 q2 e)
  show wpAny _ A.in1 (tryCatch (holding [Value.ref b, Value.ref b] (richCompare .Gt (.ref b) (.ref a) >>= _)) _ >>= _) _ _ _
  refine wpAny_bind (wpAny_tryCatch (wpAny_holding (wpAny_bind (cmp { s with heap := h3 } k3 prog w _ _ ?_))))
  refine wpAny_bind (wpAny_holding (wpAny_truthy_bool (wpAny_bind (wpAny_letGo (wpAny_pure ?_)))))
  have fin : ∀ (h4 : Heap) (r : Addr) (tk c' : Nat), h4.IsTupleIter I T 2 → h4.IsTuple T #[.ref a, .ref b] → h4.get? S = some { cls := .type "list", dict := none, data := .seq #[.ref r, .ref r] c', slots := #[] } →
      (∀ x o, x ≠ I → x ≠ S → s.heap.get? x = some o → h4.get? x = some o) → r = (if k = true then b else a) → codeAny (model prog w) A (.builtin "max.loop" ⟨[.ref I, .none, .ref S], []⟩) R { s with heap := h4, toks := tk } := by
    intro h4 r tk c' I4 T4 S4 k4 er
    refine codeAny_builtin F.entry_max_loop ?_
    rw [Around.under_plainId F.plain_max_loop _]
    refine wpAny_bind (m := seqItems? (.ref S)) (wpAny_seqItems S4 rfl ?_)
    show wpAny _ A.in1 (tryCatch (pyNext (.ref I)) _ >>= _) _ _ _
    refine wpAny_bind (wpAny_tryCatch (wpAny_pyNext_tuple_end hA I4 T4 rfl fun h5 b5 => ?_))
    have S5 := b5 S _ IS.symm S4
    refine wpAny_bind (m := updateSeq S (fun _ => #[])) (wpAny_updateSeq S5 rfl (wpAny_bind (wpAny_letGo (wpAny_pure ?_))))
    rw [er]
    exact hR _ tk fun x o q1 q2 e => (Heap.get?_update_other _ _ (Ne.symm q2)).trans (b5 x o q1 (k4 x o q1 q2 e))
  cases k with
  | true =>
    simp only [if_true]
    refine wpAny_bind (m := updateSeq S (fun _ => #[.ref b, .ref b])) (wpAny_updateSeq S3 rfl (wpAny_bind (wpAny_letGo ?_)))
    rw [hn]
    have u4 : ∀ x o, x ≠ S → h3.get? x = some o → (h3.update S (Obj.mapSeq fun _ => #[Value.ref b, Value.ref b])).get? x = some o := fun x o q e => (Heap.get?_update_other _ _ (Ne.symm q)).trans e
    refine wpAny_pure ⟨plainId_quiet F.plain_max_loop _, fin _ b _ _ (I3.at fun o e => u4 I o IS e) (let ⟨o, e, r⟩ := T3; ⟨o, u4 T o ST.symm e, r⟩) (Heap.get?_update_self _ S3 rfl) (fun x o q1 q2 e => u4 x o q2 (k3 x o q1 q2 e)) rfl⟩
  | false =>
    simp only [Bool.false_eq_true, if_false]
    refine wpAny_bind (wpAny_letGo ?_)
    rw [hn]
    exact wpAny_pure ⟨plainId_quiet F.plain_max_loop _, fin h3 a _ _ I3 T3 S3 k3 rfl⟩
/-- max(t, u) -/
theorem call_max {a b : Addr} {k : Bool} {Q : Value → Shared → Prop} (hh : A.handled = none) (cmp : ∀ (A' : Around) (s' : Shared), A'.units ≤ A.units + 2 → (∀ x o, s.heap.get? x = some o → s'.heap.get? x = some o) → Ob.RcOp .Gt A' s' (.ref b) (.ref a) k)
    (h : ∀ h' tk, (∀ x o, s.heap.get? x = some o → h'.get? x = some o) → Q (.ref (if k = true then b else a)) { s with heap := h', toks := tk }) : wpAny (model prog w) A (call (.builtin "max") [.ref a, .ref b]) Q E s := by
  have hn : (toString "max" ++ toString ".loop" : String) = "max.loop" := by decide
  refine call_function_tree F.kind_max F.plain_max F.entry_max (F.args_max2 _ _) ?_
  show wpAny _ A.in1 (Builtin.Builtins.bindParams "max" ["key", "default"] 0 ⟨[], []⟩ >>= _) _ _ s
  refine wpAny_bind (wpAny_of_eq (show Builtin.Builtins.bindParams "max" ["key", "default"] 0 ⟨[], []⟩ = pure [none, none] from rfl) ?_)
  show wpAny _ A.in1 (newTuple [.ref a, .ref b] >>= _) _ _ s
  refine wpAny_bind (wpAny_newObj_type ?_)
  generalize ho : ({ cls := .type "tuple", data := .seq ([.ref a, .ref b] : List Value).toArray } : Obj) = o
  have hT : (s.heap.push o).IsTuple s.heap.objs.size #[.ref a, .ref b] := ⟨o, Heap.get?_push_size _ (by rw [← ho]; rfl), (by rw [← ho]), 0, (by rw [← ho])⟩
  have z1 : (s.heap.push o).objs.size = s.heap.objs.size + 1 := Heap.size_push ..
  refine wpAny_bind (wpAny_pyIter_tuple hT ?_)
  generalize ho2 : ({ cls := .type "tuple_iterator", data := .fields #[.ref s.heap.objs.size, .int 0 0] } : Obj) = o2
  have z2 : ((s.heap.push o).push o2).objs.size = s.heap.objs.size + 2 := by rw [Heap.size_push, z1]
  refine wpAny_bind (wpAny_newObj_type ?_)
  rw [hn]
  refine wpAny_pure ⟨plainId_quiet F.plain_max_loop _, ?_⟩
  rw [z1, z2]
  generalize ho3 : ({ cls := .type "list", data := .seq ([] : List Value).toArray } : Obj) = o3
  have old : ∀ x u, s.heap.get? x = some u → (((s.heap.push o).push o2).push o3).get? x = some u := fun x u e => Heap.get?_push_of_some _ (Heap.get?_push_of_some _ (Heap.get?_push_of_some _ e))
  have at2 : ((s.heap.push o).push o2).get? (s.heap.objs.size + 1) = some o2 := by
    rw [← z1]
    exact Heap.get?_push_size _ (by rw [← ho2]; rfl)
  have at3 : (((s.heap.push o).push o2).push o3).get? (s.heap.objs.size + 2) = some o3 := by
    rw [← z2]
    exact Heap.get?_push_size _ (by rw [← ho3]; rfl)
  have lt : ∀ x u, s.heap.get? x = some u → x ≠ s.heap.objs.size + 1 ∧ x ≠ s.heap.objs.size + 2 := fun x u e => by
    have q : x < s.heap.objs.size := Heap.lt_size e
    exact ⟨Nat.ne_of_lt (Nat.lt_succ_of_lt q), Nat.ne_of_lt (Nat.lt_succ_of_lt (Nat.lt_succ_of_lt q))⟩
  refine max_pair (s := { s with heap := ((s.heap.push o).push o2).push o3 }) (T := s.heap.objs.size) (k := k) (by rw [Around.in1_handled]; exact hh) ⟨o2, Heap.get?_push_of_some _ at2, (by rw [← ho2]), (by rw [← ho2]; rfl)⟩ ((hT.push _).push _) (by rw [at3, ← ho3])
    (Nat.succ_ne_self _) (Nat.ne_of_lt (Nat.lt_succ_self _)) (Nat.ne_of_gt (Nat.lt_succ_of_lt (Nat.lt_succ_self _))) (fun s' k' => cmp _ s' (by rw [Around.in1_units]; omega) fun x u e => k' x u (lt x u e).1 (lt x u e).2 (old x u e)) fun h' tk k' => ?_
  exact h h' tk fun x u e => k' x u (lt x u e).1 (lt x u e).2 (old x u e)

end
theorem pair_raw {h : Heap} {a b : Int} {l : Addr} (r : RK h (.tup [.num a, .num b]) (.ref l)) : ∃ t u, h.IsTuple l #[.int a t, .int b u] := by
  cases r with
  | @tup _ o vs n _ e1 e2 e3 e4 =>
    obtain ⟨t, u, e⟩ : ∃ t u, vs.toList = [.int a t, .int b u] := by
      cases q : vs.toList with
      | nil => rw [q] at e4; cases e4
      | cons v rest =>
        rw [q] at e4
        cases e4 with
        | cons d ds =>
          cases d
          cases ds with
          | cons d2 ds2 =>
            cases d2
            cases ds2
            exact ⟨_, _, rfl⟩
    refine ⟨t, u, o, e1, e2, n, ?_⟩
    rw [e3]
    congr 1
    exact Array.toList_inj.mp e
theorem gt_pair {A : Around} {s : Shared} {a b c d : Int} {l m : Addr} (x : RK s.heap (.tup [.num a, .num b]) (.ref l)) (y : RK s.heap (.tup [.num c, .num d]) (.ref m)) (hu : A.units < cLine) : Ob.RcOp .Gt A s (.ref m) (.ref l) (decide (a < c ∨ (a = c ∧ b < d))) := by
  obtain ⟨t, u, tl⟩ := pair_raw x
  obtain ⟨t', u', tm⟩ := pair_raw y
  have z := Ob.RcOp.tuples_gt (A := A) (e := fun j => if j = 0 then c == a else d == b) (r := fun j => if j = 0 then decide (a < c) else decide (b < d)) tm tl hu (fun j h1 h2 => ?_) fun j h1 h2 _ => ?_
  · have e : Ob.lexAt (fun j => if j = 0 then c == a else d == b) (fun j => if j = 0 then decide (a < c) else decide (b < d)) (decide ((#[Value.int c t', Value.int d u'] : Array Value).size > (#[Value.int a t, Value.int b u] : Array Value).size)) 0 (min (#[Value.int c t', Value.int d u'] : Array Value).size (#[Value.int a t, Value.int b u] : Array Value).size) = decide (a < c ∨ (a = c ∧ b < d)) := by
      show (if (c == a) = true then (if (d == b) = true then decide (2 > 2) else decide (b < d)) else decide (a < c)) = _
      by_cases h1 : c = a
      · subst h1
        rw [if_pos (beq_self_eq_true c)]
        by_cases h2 : d = b
        · subst h2
          rw [if_pos (beq_self_eq_true d)]
          simp
        · rw [if_neg (by simpa using h2)]
          simp
      · rw [if_neg (by simpa using h1)]
        have : ¬ a = c := fun q => h1 q.symm
        simp [this]
    rw [e] at z
    exact z
  · match j, h1, h2 with
    | 0, _, _ => exact SeqAt.EqAt.int_int c t' a t
    | 1, _, _ => exact SeqAt.EqAt.int_int d u' b u
    | j + 2, h1, _ => exact absurd h1 (by show ¬ j + 2 < 2; omega)
  · match j, h1, h2 with
    | 0, _, _ => exact Ob.RcOp.gt_int c a t' t
    | 1, _, _ => exact Ob.RcOp.gt_int d b u' u
    | j + 2, h1, _ => exact absurd h1 (by show ¬ j + 2 < 2; omega)
theorem ord_pair (a b c d : Int) : ordK false (.tup [.num c, .num d]) (.tup [.num a, .num b]) = decide (c < a ∨ (c = a ∧ d < b)) := by
  rw [ordK, ordKs, ordKs, ordKs, ordK, ordK]
  by_cases h1 : c = a
  · subst h1
    rw [if_pos (NestedKey.beq_self _)]
    by_cases h2 : d = b
    · subst h2
      rw [if_pos (NestedKey.beq_self _)]
      simp
    · rw [if_neg (by simpa [NestedKey.beq] using h2)]
      simp
  · rw [if_neg (by simpa [NestedKey.beq] using h1)]
    simp [h1]
theorem cmp_pair (a b c d : Int) : cmpK (.tup [.num c, .num d]) (.tup [.num a, .num b]) = true := by
  rw [cmpK, cmpKs, cmpKs, cmpKs, cmpK, cmpK]
  split
  · split <;> rfl
  · rfl
section
variable {X : Cx}
def pr2 (a b : Int) : NK := .tup [.num a, .num b]
/-- min(x, y) of two pairs of whole numbers -/
def rMin2 : List V → Hp → VK → Prop := fun xs H Q => ∃ (x y : V) (a b c d : Int), xs = [x, y] ∧ DV H (pr2 a b) x ∧ DV H (pr2 c d) y ∧ Q (if c < a ∨ (c = a ∧ d < b) then y else x) H
def rMax2 : List V → Hp → VK → Prop := fun xs H Q => ∃ (x y : V) (a b c d : Int), xs = [x, y] ∧ DV H (pr2 a b) x ∧ DV H (pr2 c d) y ∧ Q (if a < c ∨ (a = c ∧ b < d) then y else x) H
theorem pick {x y : V} {l m : Addr} {p : Prop} [Decidable p] (rx : RelV x (.ref l)) (ry : RelV y (.ref m)) : RelV (if p then y else x) (.ref (if decide p = true then m else l)) := by
  by_cases h : p
  · rw [if_pos h, if_pos (decide_eq_true h)]
    exact ry
  · rw [if_neg h, if_neg (by rw [decide_eq_false h]; exact Bool.false_ne_true)]
    exact rx
theorem keeps_rk {h h' : Heap} {k : NK} {u : Value} (r : RK h k u) (t : ∀ b o, h.get? b = some o → h'.get? b = some o) : RK h' k u := r.keep fun b o e _ => t b o e
theorem rk_ref {h : Heap} {ks : List NK} {u : Value} (r : RK h (.tup ks) u) : ∃ l, u = .ref l := by
  cases r
  exact ⟨_, rfl⟩
theorem call_min2N (hc : X.calm = true) (hu : X.A.units + 64 < cLine) : CallR X (.builtin "min") rMin2 := by
  intro pins s σ H xs us Q I r h
  obtain ⟨x, y, a, b, c, d, rfl, dx, dy, q⟩ := h
  obtain ⟨u, v, rfl, ru, rv⟩ := vals2 r
  have kx := dx.rk I ru
  have ky := dy.rk I rv
  obtain ⟨l, rfl⟩ := rk_ref kx
  obtain ⟨m, rfl⟩ := rk_ref ky
  refine call_min (k := decide (c < a ∨ (c = a ∧ d < b))) (I.ok.hd hc) (fun A' s' le t => ?_) fun h' tk t => ⟨_, H, I.kept t, pick ru rv, q⟩
  rw [← ord_pair]
  exact ord_key false 8 _ _ A' s' _ _ (by simp [NestedKey.depth, NestedKey.depthAll]) (keeps_rk ky t) (keeps_rk kx t) (cmp_pair a b c d) (by omega)
theorem call_max2N (hc : X.calm = true) (hu : X.A.units + 64 < cLine) : CallR X (.builtin "max") rMax2 := by
  intro pins s σ H xs us Q I r h
  obtain ⟨x, y, a, b, c, d, rfl, dx, dy, q⟩ := h
  obtain ⟨u, v, rfl, ru, rv⟩ := vals2 r
  have kx := dx.rk I ru
  have ky := dy.rk I rv
  obtain ⟨l, rfl⟩ := rk_ref kx
  obtain ⟨m, rfl⟩ := rk_ref ky
  refine call_max (k := decide (a < c ∨ (a = c ∧ b < d))) (I.ok.hd hc) (fun A' s' le t => ?_) fun h' tk t => ⟨_, H, I.kept t, pick ru rv, q⟩
  exact gt_pair (keeps_rk kx t) (keeps_rk ky t) (by omega)
end
end G53

/-! Dicts whose keys are tuples of data: {}, d[k], d[k] = v, d.get(k, x), dict(d). -/
namespace G53
open PySem PySem.Spec PyProof.Rows L2

/-- an entry: the key, where its tuple stands, the value -/
abbrev Ent := NK × Addr × V
abbrev Raw := NK × Addr × Value
abbrev Alike (p : Ent) (q : Raw) : Prop := p.1 = q.1 ∧ p.2.1 = q.2.1 ∧ RelV p.2.2 q.2.2
/-- the dict at a -/
def DN (P : Program) (w : World) (a : Addr) (xs : List Ent) : HO :=
  .ext fun h => xs.length ≤ sizeLine ∧ (a == sysModules) = false ∧ ∃ us : List Raw, Paired Alike xs us ∧ ∃ o es ep, h.get? a = some o ∧ o.ExactDict ∧ o.data = .dict es ep ∧ es.toList = us.map (entryOfKey (nestedKind P w)) ∧ (us.map (·.1)).Nodup
def KeysIn (H : Hp) (xs : List Ent) : Prop := ∀ x ∈ xs, DV H x.1 (.ref x.2.1) ∧ x.1.depth ≤ 8
/-- at a stands a dict of these keys and values, in this order -/
def DMap (P : Program) (w : World) (H : Hp) (a : Addr) (kvs : List (NK × V)) : Prop := ∃ xs, H a = some (DN P w a xs) ∧ KeysIn H xs ∧ xs.map (fun x => (x.1, x.2.2)) = kvs
theorem KeysIn.mono {H H' : Hp} {xs : List Ent} (h : KeysIn H xs) (t : Tk H H') : KeysIn H' xs := fun x hx => ⟨(h x hx).1.mono t, (h x hx).2⟩
theorem DMap.mono {P : Program} {w : World} {H H' : Hp} {a : Addr} {kvs : List (NK × V)} (d : DMap P w H a kvs) (t : Tk H H') (e : H' a = H a) : DMap P w H' a kvs :=
  let ⟨xs, h1, h2, h3⟩ := d
  ⟨xs, e.trans h1, h2.mono t, h3⟩
/-- a store into the dict changes no tuple -/
theorem DMap.tk {P : Program} {w : World} {H : Hp} {a : Addr} {kvs : List (NK × V)} (d : DMap P w H a kvs) (o : HO) : Tk H (upd H a o) := fun b xs e => by
  obtain ⟨ys, h1, _⟩ := d
  rw [upd_ne fun z => by rw [z, h1] at e; cases e]
  exact e
def putE (xs : List Ent) (k : NK) (b : Addr) (v : V) : List Ent := if (xs.any fun x => decide (x.1 = k)) = true then xs.map (fun x => if x.1 = k then (x.1, x.2.1, v) else x) else xs ++ [(k, b, v)]
theorem putE_put (xs : List Ent) (k : NK) (b : Addr) (v : V) : (putE xs k b v).map (fun x => (x.1, x.2.2)) = putK (xs.map fun x => (x.1, x.2.2)) k v := by
  unfold putE putK
  rw [List.any_map]
  by_cases h : (xs.any fun x => decide (x.1 = k)) = true
  · rw [if_pos h, if_pos (by exact h), List.map_map, List.map_map]
    refine List.map_congr_left fun x _ => ?_
    by_cases e : x.1 = k
    · simp [e]
    · simp [e]
  · rw [if_neg h, if_neg (by exact h), List.map_append]
    rfl
theorem alike_any {k : NK} : ∀ {xs : List Ent} {us : List Raw}, Paired Alike xs us → (xs.any fun x => decide (x.1 = k)) = (atKey us k).isSome
  | _, _, .nil => rfl
  | x :: xs, u :: us, .cons r t => by
    rw [List.any_cons, alike_any t]
    unfold atKey
    rw [List.find?_cons, ← r.1]
    by_cases e : x.1 = k
    · simp [e]
    · simp [e]
theorem alike_put {k : NK} {b : Addr} {v : V} {u : Value} (rv : RelV v u) {xs : List Ent} {us : List Raw} (h : Paired Alike xs us) : Paired Alike (putE xs k b v) (storedH us k b u) := by
  unfold putE storedH
  rw [alike_any h]
  by_cases e : (atKey us k).isSome = true
  · rw [if_pos e, if_pos e]
    clear e
    induction h with
    | nil => exact .nil
    | @cons x y xs us r t ih =>
      refine .cons ?_ ih
      unfold putAt
      rw [← r.1]
      dsimp only
      by_cases e : x.1 = k
      · rw [if_pos e, if_pos e]
        exact ⟨rfl, r.2.1, rv⟩
      · rw [if_neg e, if_neg e]
        exact r
  · rw [if_neg e, if_neg e]
    clear e
    induction h with
    | nil => exact .cons ⟨rfl, rfl, rv⟩ .nil
    | cons r t ih => exact .cons r ih
theorem alike_val {k : NK} : ∀ {xs : List Ent} {us : List Raw}, Paired Alike xs us → RelO (valV (xs.map fun x => (x.1, x.2.2)) k) (valueAt (pairsH us) k)
  | _, _, .nil => trivial
  | x :: xs, u :: us, .cons r t => by
    have ih := alike_val (k := k) t
    rw [List.map_cons]
    by_cases e : x.1 = k
    · rw [valV_pos (p := (x.1, x.2.2)) e]
      have e2 : valueAt (pairsH (u :: us)) k = some u.2.2 := by
        unfold valueAt pairsH
        rw [List.map_cons, List.find?_cons]
        simp [← r.1, e]
      rw [e2]
      exact r.2.2
    · rw [valV_neg (p := (x.1, x.2.2)) e]
      have e2 : valueAt (pairsH (u :: us)) k = valueAt (pairsH us) k := by
        unfold valueAt pairsH
        rw [List.map_cons, List.find?_cons]
        simp [← r.1, e]
      rw [e2]
      exact ih
theorem alike_len {xs : List Ent} {us : List Raw} (h : Paired Alike xs us) : xs.length = us.length := Paired.length h
theorem alike_mem : ∀ {xs : List Ent} {us : List Raw}, Paired Alike xs us → ∀ u ∈ us, ∃ x ∈ xs, Alike x u
  | _, _, .nil, u, hu => absurd hu (by simp)
  | x :: xs, v :: us, .cons r t, u, hu => by
    rcases List.mem_cons.mp hu with rfl | hu
    · exact ⟨x, List.mem_cons_self, r⟩
    · obtain ⟨y, hy, a⟩ := alike_mem t u hu
      exact ⟨y, List.mem_cons_of_mem _ hy, a⟩
theorem dn_ok {P : Program} {w : World} {H : Hp} {h : Heap} {a : Addr} {xs : List Ent} {us : List Raw} (hz : xs.length ≤ sizeLine) (ha : (a == sysModules) = false) (pr : Paired Alike xs us) (d : h.DictOfH (nestedKind P w) a us) : ObjOk P w H h a (DN P w a xs) := by
  obtain ⟨o, es, ep, h1, h2, h3, h4, _, h6⟩ := d
  exact ⟨⟨hz, ha, us, pr, o, es, ep, h1, h2, h3, h4, h6⟩, ⟨o, h1⟩, fun g g' ⟨z1, z2, us', z3, o', es', ep', q1, q2⟩ k => ⟨z1, z2, us', z3, o', es', ep', k _ q1, q2⟩⟩
section
variable {X : Cx} {pins : List (Addr × Obj)} {σ : L2.St} {H : Hp} {s : Shared} {a : Addr} {xs : List Ent}
theorem dn_at (I : Inv X pins σ H s) (h : H a = some (DN X.prog X.w a xs)) (hk : KeysIn H xs) : ∃ us : List Raw, xs.length ≤ sizeLine ∧ (a == sysModules) = false ∧ Paired Alike xs us ∧ s.heap.DictOfH (nestedKind X.prog X.w) a us := by
  obtain ⟨⟨z1, z2, us, z3, o, es, ep, h1, h2, h3, h4, h6⟩, _⟩ := I.hok a _ h
  refine ⟨us, z1, z2, z3, o, es, ep, h1, h2, h3, h4, fun u hu => ?_, h6⟩
  obtain ⟨x, hx, e1, e2, _⟩ := alike_mem z3 u hu
  obtain ⟨d, dd⟩ := hk x hx
  rw [← e1, ← e2]
  exact ⟨d.raw I rfl, dd⟩
theorem nroom {A : Around} (hu : A.units + 64 < cLine) : (nestedKind X.prog X.w).room A.in1 := by
  show A.in1.units + 8 < cLine
  rw [Around.in1_units]
  omega
theorem key_is (I : Inv X pins σ H s) {k : NK} {y : V} {u : Value} (d : DV H k y) (hd : k.depth ≤ 8) (r : RelV y u) (ht : ∃ l, k = .tup l) : ∃ b, y = .ref b ∧ u = .ref b ∧ (nestedKind X.prog X.w).is s.heap k b := by
  obtain ⟨l, rfl⟩ := ht
  have q := d.raw I r
  cases d with
  | @tup b _ _ e1 e2 =>
    cases r
    exact ⟨b, rfl, rfl, q, hd⟩
/-- d[k], there -/
def rGetN (P : Program) (w : World) : R2 := fun x y H Q => ∃ (a : Addr) (kvs : List (NK × V)) (l : List NK) (v : V), x = .ref a ∧ DMap P w H a kvs ∧ DV H (.tup l) y ∧ (NestedKey.tup l).depth ≤ 8 ∧ valV kvs (.tup l) = some v ∧ Q v H
theorem ix_dictN (hu : X.A.units + 64 < cLine) : IxR X (rGetN X.prog X.w) := by
  intro value slice pins s σ H x y v u Q I rx ry h hs
  obtain ⟨a, kvs, l, z, rfl, ⟨xs, h1, h2, rfl⟩, dy, hd, hv, q⟩ := h
  cases rx
  obtain ⟨us, z1, z2, pr, d⟩ := dn_at I h1 h2
  obtain ⟨b, rfl, rfl, hk⟩ := key_is I dy hd ry ⟨l, rfl⟩
  have rel := alike_val (k := NestedKey.tup l) pr
  rw [hv] at rel
  obtain ⟨u0, e0, r0⟩ := rel.some_of
  exact tail_any d.typeIs slot_dict_getitem.lookup (getItem_keyed (knd := nestedKind X.prog X.w) (kvs := pairsH us) (nroom hu) hk ⟨us, d, rfl⟩ e0 ⟨z, H, I.tok _, r0, q⟩) hs
/-- d[k] = v -/
def rPutN (P : Program) (w : World) : TSet := fun o i v H Q => ∃ (a : Addr) (kvs : List (NK × V)) (l : List NK), o = .ref a ∧ DMap P w H a kvs ∧ DV H (.tup l) i ∧ (NestedKey.tup l).depth ≤ 8 ∧ kvs.length < 1000 ∧
  ∀ o', DMap P w (upd H a o') a (putK kvs (.tup l) v) → Tk H (upd H a o') → Q (upd H a o')
theorem set_dictN (hu : X.A.units + 64 < cLine) : PSet X (rPutN X.prog X.w) := by
  intro pins s σ H o i v ov iv u Q I ro ri rv h
  obtain ⟨a, kvs, l, rfl, ⟨xs, h1, h2, rfl⟩, di, hd, few, q⟩ := h
  cases ro
  obtain ⟨us, z1, z2, pr, d⟩ := dn_at I h1 h2
  obtain ⟨b, rfl, rfl, hk⟩ := key_is I di hd ri ⟨l, rfl⟩
  rw [List.length_map] at few
  have few2 : us.length ≤ sizeLine := by
    rw [← alike_len pr]
    exact z1
  refine wpAny_setItem_heap (hsz := few2) (nroom hu) hk d fun h' d' sb => ?_
  have pr' := alike_put (k := NestedKey.tup l) (b := b) rv pr
  have tk : Tk H (upd H a (DN X.prog X.w a (putE xs (.tup l) b v))) := (show DMap X.prog X.w H a _ from ⟨xs, h1, h2, rfl⟩).tk _
  have len : (putE xs (.tup l) b v).length ≤ sizeLine := by
    unfold putE
    split
    · rw [List.length_map]
      exact z1
    · rw [List.length_append, sizeLine_eq]
      show xs.length + 1 ≤ _
      omega
  have keys : KeysIn (upd H a (DN X.prog X.w a (putE xs (.tup l) b v))) (putE xs (.tup l) b v) := by
    intro x hx
    unfold putE at hx
    split at hx
    · obtain ⟨y, hy, e⟩ := List.mem_map.mp hx
      obtain ⟨q1, q2⟩ := h2 y hy
      by_cases e2 : y.1 = .tup l
      · rw [if_pos e2] at e
        rw [← e]
        exact ⟨q1.mono tk, q2⟩
      · rw [if_neg e2] at e
        rw [← e]
        exact ⟨q1.mono tk, q2⟩
    · rcases List.mem_append.mp hx with hx | hx
      · exact ⟨(h2 x hx).1.mono tk, (h2 x hx).2⟩
      · rw [List.mem_singleton.mp hx]
        exact ⟨di.mono tk, hd⟩
  obtain ⟨oo, es, ep, g1, g2⟩ := id d'
  refine ⟨upd H a (DN X.prog X.w a (putE xs (.tup l) b v)), d_write (t' := _) I (by rw [h1]; exact True.intro) sb ⟨oo, g1⟩ (dn_ok len z2 pr' d'), q _ ⟨_, upd_same, keys, putE_put xs _ b v⟩ tk⟩
/-- {} -/
def tNewN (P : Program) (w : World) : TE := fun _ H Q => ∀ p o, H p = none → DMap P w (upd H p o) p [] → Q (.ref p) (upd H p o)
theorem pe_newN {pos : Pos} : PE X (.Dict [] [] pos) (tNewN X.prog X.w) := by
  refine ⟨fun pins s σ H Q I h => ?_⟩
  have ok : ObjOk X.prog X.w (upd H s.heap.objs.size (DN X.prog X.w s.heap.objs.size [])) (s.heap.push { cls := .type "dict", data := .dict #[] }) s.heap.objs.size (DN X.prog X.w s.heap.objs.size []) :=
    dn_ok (Nat.zero_le _) (beq_eq_false_iff_ne.mpr (Ne.symm (Nat.ne_of_lt I.big))) .nil (Heap.DictOfH.new s.heap)
  exact wpAny_Dict_empty ⟨.ref s.heap.objs.size, _, I.laid (t' := s.toks) (fun _ _ q => Heap.get?_push_of_some _ q) (Nat.le_refl _) ok, rfl, h _ _ (I.hok.fresh (Nat.le_refl _)) ⟨[], upd_same, fun x hx => absurd hx (by simp), rfl⟩⟩
/-- d.get(k, x) -/
def tGet2N (P : Program) (w : World) (td ty tx : TE) : TE := fun σ H Q => td σ H fun x H1 => ∃ a, x = .ref a ∧ (∃ kvs, DMap P w H1 a kvs) ∧ ty σ H1 fun y H2 => tx σ H2 fun z H3 => ∃ (kvs : List (NK × V)) (l : List NK), DMap P w H3 a kvs ∧ DV H3 (.tup l) y ∧ (NestedKey.tup l).depth ≤ 8 ∧ Q ((valV kvs (.tup l)).getD z) H3
theorem pe_get2N {o e f : Expr} {td ty tx : TE} {apos cpos : Pos} (hu : X.A.units + 64 < cLine) (ho : PE X o td) (he : PE X e ty) (hf : PE X f tx) (m : M2 X o "get" apos e f cpos) : PE X (.Call (.Attribute o "get" apos) [e, f] [] cpos) (tGet2N X.prog X.w td ty tx) := by
  refine ⟨fun pins s σ H Q I h => ?_⟩
  refine wpAny_Call_method m.base m.few m.line PySem.F.plainAttrs_dict PySem.F.slot_dict_get PySem.F.type_dict_get (thn (ho.run pins s σ H _ I h) fun u s1 ⟨x, H1, I1, rx, a, ex, ⟨kvs0, xs0, g1, g2, _⟩, q1⟩ => ?_)
  subst ex
  obtain rfl : u = Value.ref a := rx
  obtain ⟨us0, _, _, _, d0⟩ := dn_at I1 g1 g2
  refine ⟨d0.typeIs, fun b eb => ?_, ?_⟩
  · cases eb
    obtain ⟨ob, _, _, z1, z2, _⟩ := d0
    exact ⟨ob, z1, z2.2.1⟩
  rw [m.trees]
  refine Calls.callWith_builtin rfl (Calls.evalArgs_plain (Calls.spliced_cons (thn (he.run pins s1 σ H1 _ I1 q1) fun iv s2 ⟨y, H2, I2, ry, q2⟩ =>
    Calls.spliced_cons (thn (hf.run pins s2 σ H2 _ I2 q2) fun fv s3 ⟨z, H3, I3, rz, kvs, l, ⟨xs, h1, h2, e3⟩, dy, hd, q3⟩ => Calls.spliced_nil ?_))))
  subst e3
  obtain ⟨us, z1, z2, pr, d⟩ := dn_at I3 h1 h2
  obtain ⟨b, rfl, rfl, hk⟩ := key_is I3 dy hd ry ⟨l, rfl⟩
  refine getOr_keyed (knd := nestedKind X.prog X.w) (kvs := pairsH us) (nroom hu) hk z2 ⟨us, d, rfl⟩ ⟨_, H3, I3.tok _, ?_, q3⟩
  exact (alike_val (k := NestedKey.tup l) pr).getD rz
end
end G53

/-! Dicts whose keys are tuples of data, as wholes: dict(d), d != e. -/
namespace G53
open PySem PySem.Spec PyProof.Rows L2

section
variable {X : Cx}
/-- dict(d): hashes must differ -/
def rCopyN (P : Program) (w : World) : List V → Hp → VK → Prop := fun xs H Q => ∃ (a : Addr) (kvs : List (NK × V)), xs = [V.ref a] ∧ DMap P w H a kvs ∧ (kvs.map fun p => p.1.hash w).Nodup ∧
  ∀ p o, H p = none → DMap P w (upd H p o) p kvs → Q (.ref p) (upd H p o)
theorem call_dictN {P : Program} {w : World} {A : Around} {E : Value → Shared → Prop} {s : Shared} {o : Addr} {xs : List Raw} {Q : Value → Shared → Prop} (hu : (nestedKind P w).room A.in1.in1) (hS : (o == sysModules) = false) (ho : s.heap.DictOfH (nestedKind P w) o xs) (hz : xs.length ≤ sizeLine)
    (ha : (xs.map fun x => x.1.hash w).Nodup) (h : ∀ h', h'.DictOfH (nestedKind P w) s.heap.objs.size xs → Heap.SameBut s.heap.objs.size (s.heap.push { cls := .type "dict", data := .dict #[] }) h' → Q (.ref s.heap.objs.size) { s with heap := h' }) :
    wpAny (model P w) A (call (.type "dict") [.ref o]) Q E s := by
  refine callType_codes (Q₁ := fun b z => b = .ref s.heap.objs.size ∧ z = { s with heap := s.heap.push { cls := .type "dict", data := .dict #[] } }) F.kt_called_dict (F.kt_typeCall_dict_1 _) F.entry_dict_init (kt_code_dict_new _ ⟨rfl, rfl⟩) ?_
  rintro b z ⟨rfl, rfl⟩
  have new : (s.heap.push { cls := .type "dict", data := .dict #[] }).DictOfH (nestedKind P w) s.heap.objs.size [] := Heap.DictOfH.new s.heap
  have up : ∀ c u, s.heap.get? c = some u → (s.heap.push { cls := .type "dict", data := .dict #[] }).get? c = some u := fun c u e => Heap.get?_push_of_some _ e
  have ho2 : (s.heap.push { cls := .type "dict", data := .dict #[] }).DictOfH (nestedKind P w) o xs := by
    obtain ⟨q, es, ep, q1, q2, q3, q4, q5, q6⟩ := ho
    exact ⟨q, es, ep, up _ _ q1, q2, q3, q4, fun x hx => nestedKind_stays.stays (fun _ _ _ _ e _ => up _ _ e) (q5 x hx), q6⟩
  have ne : s.heap.objs.size ≠ o := by
    obtain ⟨_, _, _, q, _⟩ := ho
    exact fun e => absurd (Heap.lt_size q) (by rw [e]; exact Nat.lt_irrefl _)
  have no := ho2.nodup
  refine ⟨new.typeIs, F.args_dict_init_2 _ _, ?_⟩
  unfold Builtin.«dict.__init__»
  refine wpAny_bind ?_
  unfold Builtin.Dict.selfAndRest
  refine wpAny_bind (wpAny_notOrdered_dict new.typeIs ?_)
  show wpAny _ _ (pure (s.heap.objs.size, [Value.ref o])) _ _ _
  refine wpAny_pure ?_
  refine updateFrom_dictH .none hu ne hS new ho2 (.inr ⟨fun x hx => ?_, ha⟩) (by simpa using hz) fun h' d' _ sb => ?_
  · obtain ⟨_, _, _, _, _, _, _, q5, _⟩ := ho2
    exact nestedKind_stays.tuple (q5 x hx)
  · rw [storedAllH_nil_of_nodup xs no] at d'
    exact ⟨rfl, h h' d' sb⟩
theorem nroom2 {A : Around} (hu : A.units + 64 < cLine) : (nestedKind X.prog X.w).room A.in1.in1 := by
  show A.in1.in1.units + 8 < cLine
  rw [Around.in1_units, Around.in1_units]
  omega
theorem cr_dictN (hu : X.A.units + 64 < cLine) : CallR X (.type "dict") (rCopyN X.prog X.w) := by
  intro pins s σ H xs us Q I r h
  obtain ⟨a, kvs, rfl, ⟨es, h1, h2, rfl⟩, ap, q⟩ := h
  rw [Vals.ref1 r]
  obtain ⟨rs, z1, z2, pr, d⟩ := dn_at I h1 h2
  have ek : (rs.map fun x => x.1.hash X.w) = (es.map fun x => (x.1, x.2.2)).map fun p => p.1.hash X.w := by
    rw [List.map_map]
    clear ap q h1 h2 d z1
    induction pr with
    | nil => rfl
    | cons r t ih =>
      rw [List.map_cons, List.map_cons, ih, ← r.1]
      rfl
  refine call_dictN (nroom2 hu) z2 d (by rw [← alike_len pr]; exact z1) (by rw [ek]; exact ap) fun h' d' sb => ?_
  have lt : ∀ b u, s.heap.get? b = some u → h'.get? b = some u := fun b u e => (sb.2 b (Nat.ne_of_lt (Heap.lt_size e))).trans (Heap.get?_push_of_some _ e)
  have ok : ObjOk X.prog X.w (upd H s.heap.objs.size (DN X.prog X.w s.heap.objs.size es)) h' s.heap.objs.size (DN X.prog X.w s.heap.objs.size es) :=
    dn_ok z1 (beq_eq_false_iff_ne.mpr (Ne.symm (Nat.ne_of_lt I.big))) pr d'
  have none : H s.heap.objs.size = none := I.hok.fresh (Nat.le_refl _)
  exact ⟨.ref s.heap.objs.size, _, I.laid (t' := s.toks) lt (Nat.le_refl _) ok, rfl, q _ _ none ⟨es, upd_same, h2.mono (Tk.new (Tk.refl H) none), rfl⟩⟩
end

/-! ### d != e -/
section
variable {P : Program} {w : World} {A : Around} {E : Value → Shared → Prop} {s : Shared}
theorem pairsN {nm : String} {a b : Addr} {xs ys : List Raw} {e : Nat → Bool} {Q : Bool → Shared → Prop} (hu : (nestedKind P w).room A) (ha : (a == sysModules) = false) (hb : (b == sysModules) = false) (da : s.heap.DictOfH (nestedKind P w) a xs) (db : s.heap.DictOfH (nestedKind P w) b ys)
    (hk : xs.map (·.1) = ys.map (·.1)) (he : ∀ (j : Nat) (x y : Raw), xs[j]? = some x → ys[j]? = some y → SeqAt.EqAt A s x.2.2 y.2.2 (e j)) (h : Q ((List.range xs.length).all e) s) : wpAny (model P w) A (Builtin.Dict.samePairs nm a b) Q E s := by
  obtain ⟨oa, ea, pa, a1, _, a3, a4, a5, a6⟩ := da
  obtain ⟨ob, eb, pb, b1, _, b3, b4, b5, b6⟩ := db
  have la : ea.size = xs.length := size_of_entries a4
  have lb : eb.size = ys.length := size_of_entries b4
  have lk : xs.length = ys.length := by simpa using congrArg List.length hk
  have sz : ea.size = eb.size := by rw [la, lb, lk]
  unfold Builtin.Dict.samePairs Builtin.Dict.showsAll
  rw [if_neg (show ¬ (a == sysModules) = true by rw [ha]; exact Bool.false_ne_true), if_neg (show ¬ (b == sysModules) = true by rw [hb]; exact Bool.false_ne_true)]
  refine wpAny_bind (wpAny_pure (wpAny_bind (wpAny_pure (wpAny_bind (wpAny_dictEntries a1 a3 ?_)))))
  dsimp only
  refine wpAny_bind (wpAny_dictEntries b1 b3 ?_)
  rw [if_neg (by rw [sz]; simp)]
  refine wpAny_bind (wpAny_dictEpoch a1 a3 (wpAny_bind ?_))
  rw [Std.Legacy.Range.forIn_eq_forIn_range']
  simp only [Std.Legacy.Range.size, Nat.sub_zero, Nat.add_sub_cancel, Nat.div_one]
  refine wpAny_forIn_list _ (fun rest q z => z = s ∧ q = (none, ()) ∧ ∃ i, rest = List.range' i (ea.size - i) ∧ i ≤ ea.size ∧ Q (((List.range xs.length).drop i).all e) s) _ ?_ ?_ _ _ ⟨rfl, rfl, 0, by simp, Nat.zero_le _, by simpa using h⟩
  · rintro x rest q z ⟨rfl, rfl, i, hr, hi, hq⟩
    have lt : i < ea.size := by
      rcases Nat.lt_or_ge i ea.size with h | h
      · exact h
      · rw [Nat.sub_eq_zero_of_le h] at hr; simp at hr
    obtain ⟨rfl, rest2⟩ : x = i ∧ rest = List.range' (i + 1) (ea.size - (i + 1)) := by
      have e : ea.size - i = (ea.size - (i + 1)) + 1 := by omega
      rw [e, List.range'_succ] at hr
      injection hr with h1 h2
      exact ⟨h1, h2⟩
    have ltx : x < xs.length := by omega
    have lty : x < ys.length := by omega
    have drp : (List.range xs.length).drop x = x :: (List.range xs.length).drop (x + 1) := by simp [List.drop_eq_getElem_cons, ltx]
    rw [drp, List.all_cons] at hq
    have gx : xs[x]? = some xs[x] := List.getElem?_eq_getElem ltx
    have gy : ys[x]? = some ys[x] := List.getElem?_eq_getElem lty
    have same : ys[x].1 = xs[x].1 := by
      have z1 : (xs.map (·.1))[x]? = some xs[x].1 := by rw [List.getElem?_map, gx]; rfl
      have z2 : (ys.map (·.1))[x]? = some ys[x].1 := by rw [List.getElem?_map, gy]; rfl
      rw [hk, z2] at z1
      exact Option.some.inj z1
    refine wpAny_bind (wpAny_dictEntries a1 a3 ?_)
    rw [entry_at a4 x, gx]
    show wpAny _ _ (holding [Value.ref xs[x].2.1, xs[x].2.2] _ >>= _) _ _ _
    have key : (nestedKind P w).is z.heap xs[x].1 xs[x].2.1 := a5 _ (List.getElem_mem ltx)
    refine wpAny_bind (wpAny_holding (wpAny_bind (wpAny_dictFind_heap hu key b1 b3 b4 b5 b6 (fun no => absurd (show ys[x]? = some (xs[x].1, ys[x].2) by rw [gy, ← same]) (no x ys[x].2)) fun j p hj => ?_)))
    have ej : j = x := by
      refine idxH_unique b6 (k := xs[x].1) hj (?_ : ys[x]? = some (xs[x].1, ys[x].2))
      rw [gy, ← same]
    subst ej
    have ep : p = ys[j].2 := by
      rw [gy] at hj
      exact (congrArg Prod.snd (Option.some.inj hj)).symm
    subst ep
    refine wpAny_bind (wpAny_dictEntries b1 b3 ?_)
    rw [entry_at b4 j, gy]
    refine wpAny_holding (he j _ _ gx gy P w _ _ ?_)
    cases hb2 : e j with
    | false =>
      rw [hb2, Bool.false_and] at hq
      show wpAny _ _ (if (!false) = true then _ else _) _ _ _
      rw [if_pos (by decide)]
      exact wpAny_pure (wpAny_pure hq)
    | true =>
      rw [hb2, Bool.true_and] at hq
      show wpAny _ _ (if (!true) = true then _ else _) _ _ _
      rw [if_neg (by decide)]
      refine wpAny_bind (wpAny_dictEpoch a1 a3 ?_)
      rw [if_neg (by simp)]
      exact wpAny_pure ⟨rfl, rfl, j + 1, rest2, lt, hq⟩
  · rintro q z ⟨rfl, rfl, i, hr, hi, hq⟩
    have en : i = ea.size := by
      rcases Nat.lt_or_ge i ea.size with h | h
      · have e : ea.size - i = (ea.size - (i + 1)) + 1 := by omega
        rw [e, List.range'_succ] at hr; exact nomatch hr
      · exact Nat.le_antisymm hi h
    refine wpAny_pure ?_
    have dn : (List.range xs.length).drop i = [] := by simp; omega
    rw [dn] at hq
    exact hq
theorem neN {a b : Addr} {xs ys : List Raw} {e : Nat → Bool} {Q : Value → Shared → Prop} (hu : (nestedKind P w).room A.in1) (hl : A.units < cLine) (ha : (a == sysModules) = false) (hb : (b == sysModules) = false) (da : s.heap.DictOfH (nestedKind P w) a xs) (db : s.heap.DictOfH (nestedKind P w) b ys)
    (hk : xs.map (·.1) = ys.map (·.1)) (he : ∀ (j : Nat) (x y : Raw), xs[j]? = some x → ys[j]? = some y → SeqAt.EqAt A.in1 s x.2.2 y.2.2 (e j)) (h : Q (.bool (!(List.range xs.length).all e)) s) : wpAny (model P w) A (compareOp .NotEq (.ref a) (.ref b)) Q E s := by
  refine wpAny_richCompare_same_room (op := .NotEq) da.typeIs db.typeIs PySem.F.slot_dict_ne (wpAny_call_entry PySem.F.slot_dict_ne da.typeIs PySem.F.entry_dict_ne ?_ (PySem.F.args_dict_ne_2 _ _)) hl
  show wpAny _ _ (Builtin.Dict.dictSlotArgs "__ne__" ⟨[.ref a, .ref b], []⟩ >>= _) _ _ s
  refine wpAny_bind ?_
  unfold Builtin.Dict.dictSlotArgs
  refine wpAny_bind (wpAny_notOrdered_dict da.typeIs ?_)
  show wpAny _ _ (pure (Value.ref a, Value.ref b)) _ _ s
  refine wpAny_pure (wpAny_bind (wpAny_isInstance (T := "dict") db.typeIs PySem.F.sub_dict_dict ?_))
  simp only [Bool.not_true, Bool.false_eq_true, if_false]
  refine wpAny_bind (wpAny_pure (wpAny_bind (wpAny_pure (wpAny_bind (pairsN hu ha hb da db hk he ?_)))))
  exact wpAny_pure ⟨_, rfl, (fun x => nomatch x), by simpa using h⟩
end
section
variable {X : Cx}
/-- keys with numbers -/
def numsV (ks : List (NK × Int)) : List (NK × V) := ks.map fun p => (p.1, V.int p.2)
def rNeN (P : Program) (w : World) : R2 := fun x y H Q => ∃ (a b : Addr) (ks ls : List (NK × Int)), x = .ref a ∧ y = .ref b ∧ DMap P w H a (numsV ks) ∧ DMap P w H b (numsV ls) ∧ ks.map (·.1) = ls.map (·.1) ∧ Q (.bl (!decide (ks = ls))) H
/-- the j-th numbers are alike -/
def alikeAt (ks ls : List (NK × Int)) (j : Nat) : Bool := decide ((ks.map (·.2))[j]? = (ls.map (·.2))[j]?)
theorem alike_all {ks ls : List (NK × Int)} (hk : ks.map (·.1) = ls.map (·.1)) : (List.range ks.length).all (alikeAt ks ls) = decide (ks = ls) := by
  have len : ks.length = ls.length := by simpa using congrArg List.length hk
  by_cases e : ks = ls
  · subst e
    rw [decide_eq_true rfl, List.all_eq_true]
    intro j _
    simp [alikeAt]
  · rw [decide_eq_false e]
    cases hb : (List.range ks.length).all (alikeAt ks ls) with
    | false => rfl
    | true =>
      refine absurd ?_ e
      rw [List.all_eq_true] at hb
      have e2 : ks.map (·.2) = ls.map (·.2) := by
        refine List.ext_getElem? fun j => ?_
        by_cases hj : j < ks.length
        · exact of_decide_eq_true (hb j (List.mem_range.mpr hj))
        · rw [List.getElem?_eq_none (by simpa using hj), List.getElem?_eq_none (by simpa [← len] using hj)]
      refine List.ext_getElem? fun j => ?_
      have q1 := congrArg (fun l => l[j]?) hk
      have q2 := congrArg (fun l => l[j]?) e2
      simp only [List.getElem?_map] at q1 q2
      cases h1 : ks[j]? with
      | none =>
        cases h2 : ls[j]? with
        | none => rfl
        | some y => simp [h1, h2] at q1
      | some x =>
        cases h2 : ls[j]? with
        | none => simp [h1, h2] at q1
        | some y =>
          simp only [h1, h2, Option.map_some, Option.some.injEq] at q1 q2
          rw [show x = y from Prod.ext q1 q2]
theorem nums_at {es : List Ent} {rs : List Raw} {ks : List (NK × Int)} (pr : Paired Alike es rs) (he : es.map (fun x => (x.1, x.2.2)) = numsV ks) : rs.map (·.1) = ks.map (·.1) ∧ ∀ (j : Nat) (u : Raw), rs[j]? = some u → ∃ i t, u.2.2 = .int i t ∧ (ks.map (·.2))[j]? = some i := by
  induction pr generalizing ks with
  | nil =>
    cases ks with
    | nil => exact ⟨rfl, fun j u e => by simp at e⟩
    | cons k ks => cases he
  | @cons x y es rs r t ih =>
    cases ks with
    | nil => cases he
    | cons k ks =>
      rw [numsV, List.map_cons, List.map_cons] at he
      injection he with h1 h2
      obtain ⟨i1, i2⟩ := ih h2
      have k1 : x.1 = k.1 := congrArg Prod.fst h1
      have k2 : x.2.2 = V.int k.2 := congrArg Prod.snd h1
      refine ⟨by rw [List.map_cons, List.map_cons, i1, ← r.1, k1], fun j u e => ?_⟩
      cases j with
      | zero =>
        rw [List.getElem?_cons_zero] at e
        cases e
        have z := r.2.2
        rw [k2] at z
        obtain ⟨t, z⟩ := z
        exact ⟨k.2, t, z, rfl⟩
      | succ j =>
        rw [List.getElem?_cons_succ] at e
        obtain ⟨i, t, z1, z2⟩ := i2 j u e
        exact ⟨i, t, z1, by rw [List.map_cons, List.getElem?_cons_succ]; exact z2⟩
theorem op_neN (hu : X.A.units + 64 < cLine) : OpR X (compareOp .NotEq) (rNeN X.prog X.w) := by
  intro pins s σ H x y v u Q I rx ry h
  obtain ⟨a, b, ks, ls, rfl, rfl, ⟨xs, x1, x2, x3⟩, ⟨ys, y1, y2, y3⟩, hk, q⟩ := h
  cases rx
  cases ry
  obtain ⟨us, _, ha, pa, da⟩ := dn_at I x1 x2
  obtain ⟨vs, _, hb, pb, db⟩ := dn_at I y1 y2
  obtain ⟨u1, u2⟩ := nums_at pa x3
  obtain ⟨v1, v2⟩ := nums_at pb y3
  have len : us.length = ks.length := by simpa using congrArg List.length u1
  refine neN (e := alikeAt ks ls) (nroom hu) (by omega) ha hb da db (by rw [u1, v1, hk]) (fun j p q hp hq => ?_) ?_
  · obtain ⟨i, t, e1, e2⟩ := u2 j p hp
    obtain ⟨i', t', f1, f2⟩ := v2 j q hq
    rw [e1, f1]
    have z := eqAt_key (.num i) (.num i') X.A.in1 s (.int i t) (.int i' t') (.int _ _) (.int _ _) (by rw [Around.in1_units]; simp only [NestedKey.depth]; omega)
    refine z.cast ?_
    unfold alikeAt
    rw [e2, f2]
    by_cases e : i = i'
    · subst e
      simp [NestedKey.beq]
    · simp [NestedKey.beq, e]
  · rw [len, alike_all hk]
    exact ⟨.bl _, H, I, rfl, q⟩
end
end G53

/-! {k: v for x in xs}, the keys tuples of data. -/
namespace G53
open PySem PySem.Spec PyProof.Rows L2

section
variable {X : Cx}
/-- the comprehension's own store -/
theorem putN {pins : List (Addr × Obj)} {σ : L2.St} {H : Hp} {s : Shared} {E : Value → Shared → Prop} {D : Addr} {kvs : List (NK × V)} {l : List NK} {y v : V} {u r : Value} {Q : Unit → Shared → Prop} (hu : X.A.units + 64 < cLine) (I : Inv X pins σ H s) (hD : DMap X.prog X.w H D kvs) (di : DV H (.tup l) y) (hd : (NestedKey.tup l).depth ≤ 8)
    (few : kvs.length < 1000) (ry : RelV y u) (rv : RelV v r) (h : ∀ s' o, Inv X pins σ (upd H D o) s' → DMap X.prog X.w (upd H D o) D (putK kvs (.tup l) v) → Tk H (upd H D o) → Q () s') : wpAny (model X.prog X.w) X.A (dictSet D u r) Q E s := by
  obtain ⟨xs, h1, h2, rfl⟩ := hD
  obtain ⟨us, z1, z2, pr, d⟩ := dn_at I h1 h2
  obtain ⟨b, rfl, rfl, hk⟩ := key_is I di hd ry ⟨l, rfl⟩
  rw [List.length_map] at few
  have few2 : us.length ≤ sizeLine := by
    rw [← alike_len pr]
    exact z1
  have room : (nestedKind X.prog X.w).room X.A := by
    show X.A.units + 8 < cLine
    omega
  refine wpAny_dictSet_heap (hsz := few2) room hk d fun h' d' sb => ?_
  have pr' := alike_put (k := NestedKey.tup l) (b := b) rv pr
  have tk : Tk H (upd H D (DN X.prog X.w D (putE xs (.tup l) b v))) := (show DMap X.prog X.w H D _ from ⟨xs, h1, h2, rfl⟩).tk _
  have len : (putE xs (.tup l) b v).length ≤ sizeLine := by
    unfold putE
    split
    · rw [List.length_map]
      exact z1
    · rw [List.length_append, sizeLine_eq]
      show xs.length + 1 ≤ _
      omega
  have keys : KeysIn (upd H D (DN X.prog X.w D (putE xs (.tup l) b v))) (putE xs (.tup l) b v) := by
    intro x hx
    unfold putE at hx
    split at hx
    · obtain ⟨y, hy, e⟩ := List.mem_map.mp hx
      obtain ⟨q1, q2⟩ := h2 y hy
      by_cases e2 : y.1 = .tup l
      · rw [if_pos e2] at e
        rw [← e]
        exact ⟨q1.mono tk, q2⟩
      · rw [if_neg e2] at e
        rw [← e]
        exact ⟨q1.mono tk, q2⟩
    · rcases List.mem_append.mp hx with hx | hx
      · exact ⟨(h2 x hx).1.mono tk, (h2 x hx).2⟩
      · rw [List.mem_singleton.mp hx]
        exact ⟨di.mono tk, hd⟩
  obtain ⟨oo, es, ep, g1, g2⟩ := id d'
  exact h _ _ (d_write (t' := _) I (by rw [h1]; exact True.intro) sb ⟨oo, g1⟩ (dn_ok len z2 pr' d')) ⟨_, upd_same, keys, putE_put xs _ b v⟩ tk
/-- D the new dict -/
def tDcN (P : Program) (w : World) (wi : TI) (g : TG) (tk tv : TE) (vs : List Nat) : TE := fun σ H Q => wi σ H fun J H1 => ∀ D, H1 D = none → ∃ W : Nat → Nat → Hp → Prop, (∀ o, DMap P w (upd H1 D o) D [] → ∃ m, W 0 m (upd H1 D o)) ∧ ∀ i m H, W i m H →
  (J.stop i H ∧ Q (.ref D) H) ∨ (J.go i H ∧ ∃ Nx : Hp → Prop, (∀ H', Nx H' → ∃ m', m' < m ∧ W (i + 1) m' H') ∧ ∀ x H', J.yld i H x H' → g x (wipe σ vs) H' fun σ2 H2 => wipe σ2 vs = wipe σ vs ∧
    tk σ2 H2 fun y H4 => tv σ2 H4 fun z H5 => ∃ kvs l, DMap P w H5 D kvs ∧ DV H5 (.tup l) y ∧ (NestedKey.tup l).depth ≤ 8 ∧ kvs.length < 1000 ∧ ∀ o, DMap P w (upd H5 D o) D (putK kvs (.tup l) z) → Tk H5 (upd H5 D o) → Nx (upd H5 D o))
abbrev Inner0 (X : Cx) (scope : Scope) (Φ : Cx → Prop) : Prop := ∀ (s : Shared) (H : Hp) (C : Addr) (cl : List (Str × Addr)) (fp : List Addr), Φ (X.blk s H scope (compEnvC scope cl C X.env) fp)
theorem dcN_core {pins : List (Addr × Obj)} {s : Shared} {σ : L2.St} {H : Hp} {Q : VK} {kx vx tg iter : Expr} {scope : Scope} {own : List (Str × Nat)} {p1 p2 : Pos} {wi : TI} {g : TG} {tk tv : TE} {use : Option (Value → Sem Unit)} {Qf : Value → Shared → Prop}
    (hu : X.A.units + 64 < cLine) (hc : X.calm = true) (hN : X.N.Nodup) (I : Inv X pins σ H s) (hi : PI X tg iter wi) (ok : BlkOk X.N X.env.scope scope own)
    (hg : Inner0 X scope fun Z => PG Z tg g) (hk : Inner0 X scope fun Z => PE Z kx tk) (he : Inner0 X scope fun Z => PE Z vx tv) (hs : ∀ x, foldedSetIterable iter X.env x = pure x)
    (h : tDcN X.prog X.w wi g tk tv (own.map (·.2)) σ H Q)
    (hRR : ∀ D C s' m H', Inv X pins σ H' s' → Q (.ref D) H' → s'.heap.Ns C m → FpOk X pins H' C → compPost (model X.prog X.w) X.A X.xe use Qf (.ref D) C (.ok .next) s') :
    wpAny (model X.prog X.w) X.A (comprehension (.DictComp kx vx [⟨tg, iter, [], 0⟩] scope p1) scope X.env p2 newDict false (eval iter X.env) use) Qf X.xe s := by
  have fre : ∀ y ∈ scope.names, y.2 = .free → ∃ c, X.env.cells.lookup y.1 = some c := fun y hy e => by
    rcases ok.free y hy e with k | k
    · exact I.ok.has _ (.inl k)
    · exact I.ok.has _ (.inr k)
  refine wpAny_comprehension_free (use := use) rfl hs (closure_ok fre) ok.kind (fun y hy e => by rw [ok.uniq y hy, e])
    (thn (hi.run pins s σ H _ I h) fun xv s1 hx => thn hx fun itv s2 h2 => ?_)
  obtain ⟨it, fp, tn, J, H2, e, I2, T, st2, f2, q⟩ := h2
  subst e
  refine wpAny_newObj_type (newEnv_comp ?_)
  generalize hD : s2.heap.objs.size = D
  have hDn : H2 D = none := I2.hok.fresh (Nat.le_of_eq hD)
  obtain ⟨W, w0, turn⟩ := q D hDn
  have dm : DMap X.prog X.w (upd H2 D (DN X.prog X.w D [])) D [] := ⟨[], upd_same, fun x hx => absurd hx (by simp), rfl⟩
  obtain ⟨m0, w0⟩ := w0 _ dm
  generalize hs3 : ({ s2 with heap := s2.heap.push { cls := .type "dict", data := .dict #[] } } : Shared) = s3
  have I3 : Inv X pins σ (upd H2 D (DN X.prog X.w D [])) s3 := by
    rw [← hs3]
    refine I2.laid (t' := s2.toks) (fun b o e => Heap.get?_push_of_some _ e) (Nat.le_of_eq hD) ?_
    rw [← hD]
    exact dn_ok (Nat.zero_le _) (beq_eq_false_iff_ne.mpr (Ne.symm (Nat.ne_of_lt I2.big))) .nil (Heap.DictOfH.new s2.heap)
  have h3 : s3.heap = s2.heap.push { cls := .type "dict", data := .dict #[] } := by rw [← hs3]
  have sz : ∀ b ∈ fp, b < s2.heap.objs.size := fun b hb => by
    obtain ⟨o, e, _⟩ := T.obj _ _ st2 b hb
    exact Heap.lt_size e
  generalize hH3 : upd H2 D (DN X.prog X.w D []) = H3 at I3 w0
  have n3 : ∀ b, b ≠ D → H3 b = H2 b := fun b hb => by rw [← hH3, upd_ne hb]
  have f3 : ∀ b ∈ fp, FpOk X pins H3 b ∧ b < s3.heap.objs.size := fun b hb => by
    have lt := sz b hb
    refine ⟨⟨?_, (f2 b hb).2⟩, by rw [h3, Heap.size_push]; exact Nat.lt_succ_of_lt lt⟩
    rw [n3 b (by rw [← hD]; exact Nat.ne_of_lt lt)]
    exact (f2 b hb).1
  have st3 : tn 0 s3.heap := T.keep _ _ _ st2 fun b _ o e => by rw [h3]; exact Heap.get?_push_of_some _ e
  have I4 := block_start I3 ok hN f3
  have pg := hg s3 H3 s3.heap.objs.size (cellsFrom (s3.heap.objs.size + 1) scope.names (cloFrom X.env.cells scope.names [])) fp
  have pk := hk s3 H3 s3.heap.objs.size (cellsFrom (s3.heap.objs.size + 1) scope.names (cloFrom X.env.cells scope.names [])) fp
  have pe := he s3 H3 s3.heap.objs.size (cellsFrom (s3.heap.objs.size + 1) scope.names (cloFrom X.env.cells scope.names [])) fp
  show codeAny _ _ (.compStart (.DictComp kx vx [⟨tg, iter, [], 0⟩] scope p1) 0 (.ref it) (.ref D) (compEnvC scope (cellsFrom (s3.heap.objs.size + 1) scope.names (cloFrom X.env.cells scope.names [])) s3.heap.objs.size X.env)) (compPost (model X.prog X.w) X.A X.xe use Qf (.ref D) s3.heap.objs.size) { s3 with heap := pushCells (s3.heap.push { cls := .type "dict", data := .dict #[] }) scope.names }
  have nfp : ∀ b ∈ fp, H3 b = none := fun b hb => (f3 b hb).1.1
  generalize hce : compEnvC scope (cellsFrom (s3.heap.objs.size + 1) scope.names (cloFrom X.env.cells scope.names [])) s3.heap.objs.size X.env = ce at I4 pg pk pe ⊢
  have cL : ce.locals = s3.heap.objs.size := by subst hce; rfl
  generalize hs4 : ({ s3 with heap := pushCells (s3.heap.push { cls := .type "dict", data := .dict #[] }) scope.names } : Shared) = s4 at I4 ⊢
  have st4 : tn 0 s4.heap := T.keep _ _ _ st3 fun b _ o e => by rw [← hs4]; exact pushCells_keeps _ _ _ _ (Heap.get?_push_of_some _ e)
  have stat : ∀ {σ' : L2.St} {H' : Hp} {s' : Shared}, Inv (X.blk s3 H3 scope ce fp) [] σ' H' s' → (∀ b ∈ fp, H' b = none) → ∀ b ∈ fp, FpOk (X.blk s3 H3 scope ce fp) [] H' b := fun {σ' H' s'} J hn b hb =>
    ⟨hn b hb, (J.ok.exf b hb).1, J.ok.exfs b hb, .inl hb, fun x c e => (J.ok.exf b hb).2 x c e, fun p hp => absurd (show p ∈ ([] : List (Addr × Obj)) ++ [] from hp) (by simp)⟩
  have loop : codeAny (model X.prog X.w) X.A (.compLoop (.DictComp kx vx [⟨tg, iter, [], 0⟩] scope p1) 0 (.ref it) (.ref D) ce) (compPost (model X.prog X.w) X.A X.xe use Qf (.ref D) s3.heap.objs.size) s4 := by
    refine compLoop_anyD (fun n s' => ∃ i H', Inv (X.blk s3 H3 scope ce fp) [] (wipe σ (own.map (·.2))) H' s' ∧ tn i s'.heap ∧ (∀ b ∈ fp, H' b = none) ∧ W i n H') ?_ m0 ⟨0, H3, I4, st4, nfp, w0⟩
    rintro n s5 ⟨i, H5, I5, st5, n5, w5⟩
    rcases turn i n H5 w5 with ⟨stop, qq⟩ | ⟨go, Nx, hNx, step⟩
    · have td := T.done (X.blk s3 H3 scope ce fp) rfl rfl rfl hc i [] s5 _ H5 (fun _ _ => False) I5 (stat I5 n5) st5 stop
      refine thnF td fun r s6 ⟨hr, I6⟩ => ?_
      subst hr
      have I7 : Inv X pins σ H5 s6 := I3.call' (ch := fp) I6.os I6.base I6.hok I6.bare fun b hb => ⟨(f3 b hb).1.2.2.2.1, (f3 b hb).1.2.1, (f3 b hb).1.2.2.2.2.1, (f3 b hb).1.2.2.2.2.2⟩
      have nC : H5 s3.heap.objs.size = none := by
        have z : H5 ce.locals = none := I6.free
        rw [cL] at z
        exact z
      obtain ⟨m, hn, _⟩ := I6.loc
      have hn : s6.heap.Ns ce.locals m := hn
      rw [cL] at hn
      exact hRR D s3.heap.objs.size s6 m H5 I7 qq hn (I3.fpOk (Nat.le_refl _) nC)
    · have ti := T.item (X.blk s3 H3 scope ce fp) rfl rfl rfl hc i [] s5 _ H5 (fun _ _ => False) I5 (stat I5 n5) st5 go
      refine thnF ti fun r s6 ⟨u, hr, h6⟩ => ?_
      subst hr
      refine thnF h6 fun _ s7 ⟨x, H7, I7, r7, y7, st7, n7⟩ => ?_
      have I7' := I7.pinned (stat I7 n7) (T.obj _ _ st7)
      refine thnF (pg.run _ s7 _ H7 x u _ I7' r7 (step x H7 y7)) fun _ s8 ⟨σ8, H8, I8, hw8, q8⟩ => ?_
      refine wpAny_pure ?_
      rw [if_pos rfl]
      refine thnF (pk.run _ s8 σ8 H8 _ I8 q8) fun z s10 ⟨yk, H10, I10, r10, q10⟩ => ?_
      refine thnF (pe.run _ s10 σ8 H10 _ I10 q10) fun z2 s11 ⟨yv, H11, I11, r11, kvs, l, hD11, d11, dp11, few11, nx⟩ => ?_
      refine putN (X := X.blk s3 H3 scope ce fp) hu I11 hD11 d11 dp11 few11 r10 r11 fun s12 o I12 dm12 tk12 => ?_
      obtain ⟨m', hm, w'⟩ := hNx _ (nx o dm12 tk12)
      have pin' : ∀ b ∈ fp, ∀ ob, s7.heap.get? b = some ob → s12.heap.get? b = some ob ∧ upd H11 D o b = none := fun b hb ob e =>
        let z := I12.pin (b, ob) (List.mem_append_right _ (List.mem_append_right _ (mem_pinsAt hb e)))
        ⟨z.1, z.2.1⟩
      have hl : (wipe σ (own.map (·.2))).length = σ8.length := by rw [← hw8, wipe_length]
      refine ⟨m', hm, i + 1, _, (I12.unpinned (pins := [])).weak hl (fun j v e => ?_), T.keep _ _ _ st7 fun b hb ob e => (pin' b hb ob e).1, fun b hb => ?_, w'⟩
      · rw [← hw8] at e
        exact (wipe_some e).1
      · obtain ⟨ob, e, _⟩ := T.obj _ _ st7 b hb
        exact (pin' b hb ob e).2
  exact codeAny_compStart_dict loop (T.self X.A 0 _ _ _ st4 loop)
theorem pe_dcN {kx vx tg iter : Expr} {scope : Scope} {own : List (Str × Nat)} {pos : Pos} {wi : TI} {g : TG} {tk tv : TE} (hu : X.A.units + 64 < cLine) (hc : X.calm = true) (hN : X.N.Nodup) (hi : PI X tg iter wi) (ok : BlkOk X.N X.env.scope scope own)
    (hg : Inner0 X scope fun Z => PG Z tg g) (hk : Inner0 X scope fun Z => PE Z kx tk) (he : Inner0 X scope fun Z => PE Z vx tv) (hs : ∀ x, foldedSetIterable iter X.env x = pure x := by intro _; rfl) :
    PE X (.DictComp kx vx [⟨tg, iter, [], 0⟩] scope pos) (tDcN X.prog X.w wi g tk tv (own.map (·.2))) := by
  refine ⟨fun pins s σ H Q I h => ?_⟩
  rw [arm_eval_DictComp]
  refine dcN_core hu hc hN I hi ok hg hk he hs h fun D C s' m H' J q hn f => ⟨m, hn, fun h'' sb => ?_⟩
  obtain ⟨f0, f1, f2, f3, f4, f5⟩ := f
  exact ⟨.ref D, H', J.turned (t' := s'.toks) (fun b o hb e => (sb.2 b hb).trans e) f0 f1 f3 f4 f5, rfl, q⟩
/-- name = {k: v for x in xs} on one line -/
theorem swN {kx vx : Expr} {gs : List Comprehension} {scope : Scope} {pos py : Pos} {y : Str} {l : Nat} {env : Env} (hk : env.scope.kind = .function) (hy : env.scope.names.lookup y = some .local) (hl : (py.line == pos.line) = true)
    (ha : (scope.names.any fun (n, k) => n == y && (k == .local || k == .cell)) = false) : swapsWith (.DictComp kx vx gs scope pos) (some (.Name y py)) l env = pure true := by
  have ky : env.kindOf y = some .local := hy
  have hb : env.blockKind = .function := by unfold Env.blockKind; rw [hk]; rfl
  unfold swapsWith
  simp only [hb, ky, ha, Expr.pos, hl]
  rfl
theorem ps_setDcN {i : Nat} {y : Str} {py : Pos} {kx vx tg iter : Expr} {scope : Scope} {own : List (Str × Nat)} {pos spos : Pos} {wi : TI} {g : TG} {tk tv : TE} (hu : X.A.units + 64 < cLine) (hc : X.calm = true) (hN : X.N.Nodup) (hy : X.N[i]? = some y) (hyl : X.env.scope.names.lookup y = some .local)
    (hsw : swapsWith (.DictComp kx vx [⟨tg, iter, [], 0⟩] scope pos) (some (.Name y py)) spos.line X.env = pure true) (hi : PI X tg iter wi) (ok : BlkOk X.N X.env.scope scope own)
    (hg : Inner0 X scope fun Z => PG Z tg g) (hk : Inner0 X scope fun Z => PE Z kx tk) (he : Inner0 X scope fun Z => PE Z vx tv) (hs : ∀ x, foldedSetIterable iter X.env x = pure x := by intro _; rfl) :
    PS X (.Assign [.Name y py] (.DictComp kx vx [⟨tg, iter, [], 0⟩] scope pos) spos) (tAsg (tDcN X.prog X.w wi g tk tv (own.map (·.2))) (gName i)) := by
  refine ⟨fun pins s σ H D I h => ?_⟩
  rw [exec_Assign_Name_used _ _ _ _ hsw]
  refine wpAny_bind (wpAny_standAt (wpAny_bind ?_))
  show wpAny _ X.A (do let _ ← comprehension (.DictComp kx vx [⟨tg, iter, [], 0⟩] scope pos) scope X.env (firstIterPos [⟨tg, iter, [], 0⟩] pos) newDict false (eval iter X.env) (some (assign (.Name y py) X.env))) _ _ s
  have h : tDcN X.prog X.w wi g tk tv (own.map (·.2)) σ H (fun x H1 => gName i x σ H1 D.nx) := h
  refine wpAny_bind (thn (dcN_core (Qf := fun _ z => SP X pins D .next z) hu hc hN I hi ok hg hk he hs h fun L C s' m H' J q hn f => ?_) fun _ s' hq => wpAny_pure (wpAny_pure hq))
  show wpAny _ _ (assign (.Name y py) X.env (.ref L)) _ _ _
  refine wpAny_assign_Name (store_ok2 (v := V.ref L) J hN hy (.inl hyl) rfl (fun s2 J2 ⟨a, sb, ha⟩ => ?_) (.inr hyl))
  obtain ⟨f0, f1, f2, f3, f4, f5⟩ := f
  have apart : C ≠ a := ha.elim (fun z => by rw [z]; exact f1) fun z e => f4 y a z e.symm
  exact ⟨m, hn.sameBut sb apart, fun h3 sb3 => ⟨_, H', J2.turned (t' := s2.toks) (fun b o hb e => (sb3.2 b hb).trans e) f0 f1 f3 f4 f5, q⟩⟩
end
end G53

/-! The program's text by places; what is known of its names; short words for the walk. -/
namespace G53
open PySem PySem.Spec PyProof.Rows L2

def topS (i : Nat) : Stmt := PySem.Challenge.pw_grantsgrow_k41_whole_order_of_roles.main.body.getD i (.Pass ⟨0, 0, 0, 0⟩)
abbrev t_is_integer : Stmt := topS 14
abbrev t_is_role : Stmt := topS 15
abbrev t_is_word : Stmt := topS 16
abbrev t_is_body : Stmt := topS 17
abbrev t_grant_word : Stmt := topS 18
abbrev t_all_roles : Stmt := topS 19
abbrev t_are_roles : Stmt := topS 20
abbrev t_roles_in : Stmt := topS 21
abbrev t_check_policy : Stmt := topS 23
abbrev t_told_roles : Stmt := topS 26
abbrev t_check_plain : Stmt := topS 27
abbrev t_is_by : Stmt := topS 28
abbrev t_is_closed_under : Stmt := topS 29
abbrev t_made_from : Stmt := topS 30
abbrev t_subsets : Stmt := topS 31
abbrev t_wholes : Stmt := topS 32
abbrev t_cases : Stmt := topS 33
abbrev t_state_with : Stmt := topS 34
abbrev t_shown : Stmt := topS 35
abbrev t_within : Stmt := topS 36
abbrev t_members : Stmt := topS 40
abbrev t_by_body : Stmt := topS 41
abbrev t_next_round : Stmt := topS 42
abbrev t_spread : Stmt := topS 43
abbrev t_greatest_bits : Stmt := topS 45
abbrev t_is_so : Stmt := topS 48
abbrev t_is_barred : Stmt := topS 50
abbrev t_holds : Stmt := topS 51
abbrev t_law_deck : Stmt := topS 53
abbrev t_law_take : Stmt := topS 54
abbrev t_law_one : Stmt := topS 55
abbrev t_law_all_roles : Stmt := topS 56
abbrev t_law_role : Stmt := topS 57
abbrev t_law_body : Stmt := topS 58
abbrev t_law_grants : Stmt := topS 59
abbrev t_law_some : Stmt := topS 60
abbrev t_law_plain : Stmt := topS 61
abbrev t_law : Stmt := topS 62
abbrev t_P_init : Stmt := inClass (topS 24) 0
abbrev t_S_init : Stmt := inClass (topS 38) 0
abbrev t_P_owners : Stmt := inClass (topS 24) 1
abbrev t_P_labels : Stmt := inClass (topS 24) 2
abbrev t_P_grants : Stmt := inClass (topS 24) 3
abbrev t_S_policy : Stmt := inClass (topS 38) 1
abbrev t_S_fixed : Stmt := inClass (topS 38) 2
abbrev t_S_kept : Stmt := inClass (topS 38) 3
abbrev t_P_len : Stmt := inClass (topS 24) 11
/-- a def of the module -/
structure Dfn (K : PySem.W.Frag) (mg : Str → Option Value) (x : Str) (st : Stmt) : Prop where
  ex : ∃ f fd, Fun K x x st f fd ∧ mg x = some (.ref f)
/-- a property of a class -/
structure Prd (K : PySem.W.Frag) (C : Addr) (x q : Str) (st : Stmt) : Prop where
  ex : ∃ p g fd, PropOf K C x p g ∧ Fun K x q st g fd
/-- a class with its __init__ -/
structure Cld (K : PySem.W.Frag) (mg : Str → Option Value) (C : Addr) (x q : Str) (st : Stmt) : Prop where
  ex : ∃ f fd, Mk K C f ∧ Fun K "__init__" q st f fd ∧ mg x = some (.ref C)
  cls : Cls K C
  parts : NoAttr K C "parts"
/-- a class with its __init__, that has two defaults -/
structure Clt (K : PySem.W.Frag) (mg : Str → Option Value) (C : Addr) (x q : Str) (st : Stmt) : Prop where
  ex : ∃ f fd e1 e2, Mk K C f ∧ FunD K "__init__" q (defArgs st) (defBody st) (defScope st) [V.ref e1, V.ref e2] [] f fd ∧ mg x = some (.ref C)
  cls : Cls K C
  parts : NoAttr K C "parts"
/-- __len__ -/
structure Lnd (K : PySem.W.Frag) (C : Addr) (q : Str) (st : Stmt) : Prop where
  ex : ∃ g fd, PySem.W.findIn K (.ref C) "__len__" = some (some (.ref g)) ∧ PySem.W.isFn K (.ref g) = true ∧ Fun K "__len__" q st g fd
structure Txt (K : PySem.W.Frag) (mg : Str → Option Value) (CP CS : Addr) : Prop where
  d_is_integer : Dfn K mg "is_integer" t_is_integer
  d_is_role : Dfn K mg "is_role" t_is_role
  d_is_word : Dfn K mg "is_word" t_is_word
  d_is_body : Dfn K mg "is_body" t_is_body
  d_grant_word : Dfn K mg "grant_word" t_grant_word
  d_all_roles : Dfn K mg "all_roles" t_all_roles
  d_are_roles : Dfn K mg "are_roles" t_are_roles
  d_roles_in : Dfn K mg "roles_in" t_roles_in
  d_check_policy : Dfn K mg "check_policy" t_check_policy
  d_told_roles : Dfn K mg "told_roles" t_told_roles
  d_check_plain : Dfn K mg "check_plain" t_check_plain
  d_is_by : Dfn K mg "is_by" t_is_by
  d_is_closed_under : Dfn K mg "is_closed_under" t_is_closed_under
  d_made_from : Dfn K mg "made_from" t_made_from
  d_subsets : Dfn K mg "subsets" t_subsets
  d_wholes : Dfn K mg "wholes" t_wholes
  d_cases : Dfn K mg "cases" t_cases
  d_state_with : Dfn K mg "state_with" t_state_with
  d_shown : Dfn K mg "shown" t_shown
  d_within : Dfn K mg "within" t_within
  d_members : Dfn K mg "members" t_members
  d_by_body : Dfn K mg "by_body" t_by_body
  d_next_round : Dfn K mg "next_round" t_next_round
  d_spread : Dfn K mg "spread" t_spread
  d_greatest_bits : Dfn K mg "greatest_bits" t_greatest_bits
  d_is_so : Dfn K mg "is_so" t_is_so
  d_is_barred : Dfn K mg "is_barred" t_is_barred
  d_holds : Dfn K mg "holds" t_holds
  d_law_deck : Dfn K mg "_law_deck" t_law_deck
  d_law_take : Dfn K mg "_law_take" t_law_take
  d_law_one : Dfn K mg "_law_one" t_law_one
  d_law_all_roles : Dfn K mg "_law_all_roles" t_law_all_roles
  d_law_role : Dfn K mg "_law_role" t_law_role
  d_law_body : Dfn K mg "_law_body" t_law_body
  d_law_grants : Dfn K mg "_law_grants" t_law_grants
  d_law_some : Dfn K mg "_law_some" t_law_some
  d_law_plain : Dfn K mg "_law_plain" t_law_plain
  d_law : Dfn K mg "law" t_law
  cP : Cld K mg CP "Policy" "Policy.__init__" t_P_init
  cS : Clt K mg CS "Setting" "Setting.__init__" t_S_init
  p_P_owners : Prd K CP "owners" "Policy.owners" t_P_owners
  p_P_labels : Prd K CP "labels" "Policy.labels" t_P_labels
  p_P_grants : Prd K CP "grants" "Policy.grants" t_P_grants
  p_S_policy : Prd K CS "policy" "Setting.policy" t_S_policy
  p_S_fixed : Prd K CS "fixed" "Setting.fixed" t_S_fixed
  p_S_kept : Prd K CS "kept" "Setting.kept" t_S_kept
  l_P : Lnd K CP "Policy.__len__" t_P_len
  b_isinstance : mg "isinstance" = none
  b_int : mg "int" = none
  b_bool : mg "bool" = none
  b_tuple : mg "tuple" = none
  b_str : mg "str" = none
  b_len : mg "len" = none
  b_all : mg "all" = none
  b_any : mg "any" = none
  b_range : mg "range" = none
  b_zip : mg "zip" = none
  b_sorted : mg "sorted" = none
  b_set : mg "set" = none
  b_enumerate : mg "enumerate" = none
  b_max : mg "max" = none
  b_min : mg "min" = none
  b_dict : mg "dict" = none
  b_list : mg "list" = none
  b_abs : mg "abs" = none
  k_MAX_GRANTS : ∃ u, mg "MAX_GRANTS" = some u ∧ RelV (.int 240) u
  k_MAX_LABELS : ∃ u, mg "MAX_LABELS" = some u ∧ RelV (.int 4) u
  k_MAX_OWNERS : ∃ u, mg "MAX_OWNERS" = some u ∧ RelV (.int 7) u
  k_MAX_PLAIN : ∃ u, mg "MAX_PLAIN" = some u ∧ RelV (.int 10) u
  k_MAX_SETTLED : ∃ u, mg "MAX_SETTLED" = some u ∧ RelV (.int 24) u
  k_KEEPING : ∃ a, mg "KEEPING" = some (.ref a) ∧ ∀ H : Hp, SqT K H a [.str "all", .str "filled", .str "sure"]
theorem bo_isinstance : bootBuiltins "isinstance" = some (.builtin "isinstance") := by decide +kernel
theorem bo_int : bootBuiltins "int" = some (.type "int") := by decide +kernel
theorem bo_bool : bootBuiltins "bool" = some (.type "bool") := by decide +kernel
theorem bo_tuple : bootBuiltins "tuple" = some (.type "tuple") := by decide +kernel
theorem bo_str : bootBuiltins "str" = some (.type "str") := by decide +kernel
theorem bo_len : bootBuiltins "len" = some (.builtin "len") := by decide +kernel
theorem bo_all : bootBuiltins "all" = some (.builtin "all") := by decide +kernel
theorem bo_any : bootBuiltins "any" = some (.builtin "any") := by decide +kernel
theorem bo_sorted : bootBuiltins "sorted" = some (.builtin "sorted") := by decide +kernel
theorem bo_set : bootBuiltins "set" = some (.type "set") := by decide +kernel
theorem bo_max : bootBuiltins "max" = some (.builtin "max") := by decide +kernel
theorem bo_min : bootBuiltins "min" = some (.builtin "min") := by decide +kernel
theorem bo_dict : bootBuiltins "dict" = some (.type "dict") := by decide +kernel
theorem bo_list : bootBuiltins "list" = some (.type "list") := by decide +kernel
theorem bo_abs : bootBuiltins "abs" = some (.builtin "abs") := by decide +kernel
section
variable {P : Program} {w : World} {K : PySem.W.Frag} {mg : Str → Option Value} {base : Heap}
abbrev Cal := @C8.Cal
/-- a def by its body -/
theorem cal_of {x : Str} {st : Stmt} {N ps : List Str} {k : Nat} {sp : Sp} (D : Dfn K mg x st) (S : FnScope N ps (defScope st)) (b : ∀ (kV doc pm : Value) (an : Option Addr) (cdv ct : Value) (us : List Value), us.length = ps.length → bindArgs (PySem.W.fnOf x x (defArgs st) (defBody st) (defScope st) .none kV doc pm an cdv ct) ⟨us, []⟩ = pure (ps.zip us))
    (len : ∀ vs H Q E, sp vs H Q E → vs.length = ps.length)
    (hbody : ∀ (f : Addr) (cdv : Value) (A : Around) (outer : List Env) (s : Shared) (H : Hp) (vs : List V) (Q : VK) (E : XK), Room k (A.deeper (envOfC x (defScope st) s.heap.objs.size f cdv)) → sp vs H Q E →
      ∃ t, PSs (cxOf CX0 P w K mg base N x (defScope st) f cdv A outer s H E).nox (defBody st) t ∧ t { nx := fun _ H' => Q .non H', rt := Q } (start N vs) H) : C8.Cal P w K mg base (k + 1) x sp [] := by
  obtain ⟨f, fd, F, m⟩ := D.ex
  exact ⟨f, fd, ps, [], F.ok S len fun cdv A outer s H vs Q E => hbody f cdv A outer s H vs Q E, m, F.kp, F.binds b, .nil⟩
theorem mak_of {x q : Str} {C : Addr} {st : Stmt} {N ps : List Str} {k : Nat} {sp : Sp} (D : Cld K mg C x q st) (S : FnScope N ps (defScope st)) (b : ∀ (kV doc pm : Value) (an : Option Addr) (cdv ct : Value) (us : List Value), us.length = ps.length → bindArgs (PySem.W.fnOf "__init__" q (defArgs st) (defBody st) (defScope st) .none kV doc pm an cdv ct) ⟨us, []⟩ = pure (ps.zip us))
    (len : ∀ vs H Q E, sp vs H Q E → vs.length = ps.length)
    (hbody : ∀ (f : Addr) (cdv : Value) (A : Around) (outer : List Env) (s : Shared) (H : Hp) (vs : List V) (Q : VK) (E : XK), Room k (A.deeper (envOfC q (defScope st) s.heap.objs.size f cdv)) → sp vs H Q E →
      ∃ t, PSs (cxOf CX0 P w K mg base N q (defScope st) f cdv A outer s H E).nox (defBody st) t ∧ t { nx := fun _ H' => Q .non H', rt := Q } (start N vs) H) : C8.Mak P w K mg base (k + 1) x C sp [] := by
  obtain ⟨f, fd, M, F, m⟩ := D.ex
  exact ⟨f, fd, ps, [], M, F.ok S len fun cdv A outer s H vs Q E => hbody f cdv A outer s H vs Q E, m, F.binds b, .nil⟩
theorem mak_ofS {x q : Str} {C : Addr} {st : Stmt} {N ps : List Str} {k : Nat} {sp : Sp} (D : Clt K mg C x q st) (S : FnScope N ps (defScope st)) (h4 : 4 + 0 = ps.length)
    (b : ∀ (T : Addr) (kV doc pm : Value) (an : Option Addr) (cdv ct : Value) (us its : List Value), us.length = 4 → its.length = 2 → ∃ k, bindArgs (PySem.W.fnOf "__init__" q (defArgs st) (defBody st) (defScope st) (.ref T) kV doc pm an cdv ct) ⟨us, []⟩ = seqItems? (.ref T) >>= k ∧ k (some its.toArray) = pure (ps.zip (us ++ its.drop 2)))
    (len : ∀ vs H Q E, sp vs H Q E → vs.length = ps.length)
    (hbody : ∀ (f : Addr) (cdv : Value) (A : Around) (outer : List Env) (s : Shared) (H : Hp) (vs : List V) (Q : VK) (E : XK), Room k (A.deeper (envOfC q (defScope st) s.heap.objs.size f cdv)) → sp vs H Q E →
      ∃ t, PSs (cxOf CX0 P w K mg base N q (defScope st) f cdv A outer s H E).nox (defBody st) t ∧ t { nx := fun _ H' => Q .non H', rt := Q } (start N vs) H) : C8.Mak P w K mg base (k + 1) x C sp [] := by
  obtain ⟨f, fd, e1, e2, M, F, m⟩ := D.ex
  obtain ⟨ds, hv, hb⟩ := F.binds1 (ps := ps) 4 2 (by simp) h4 b
  have e : ds = [] := by
    have z := hv.length
    exact List.length_eq_zero_iff.mp z.symm
  subst e
  refine ⟨f, fd, ps, [], M, F.ok S len fun cdv A outer s H vs Q E hr hs => ?_, m, hb, .nil⟩
  obtain ⟨t, h1, h2⟩ := hbody f cdv A outer s H vs Q E hr hs
  exact ⟨t, h1.nox, h2⟩
/-- a property with its promise -/
structure Prp (P : Program) (w : World) (K : PySem.W.Frag) (mg : Str → Option Value) (base : Heap) (k : Nat) (C : Addr) (x : Str) (sp : Sp) : Prop where
  ex : ∃ p g fd ps, Cls K C ∧ PropOf K C x p g ∧ FnOk P w K mg base CX0 k g fd ps sp ∧ Binds K fd ps []
theorem prp_of {x q : Str} {C : Addr} {st : Stmt} {N : List Str} {k : Nat} {sp : Sp} (c : Cls K C) (D : Prd K C x q st) (S : FnScope N ["self"] (defScope st)) (b : ∀ (kV doc pm : Value) (an : Option Addr) (cdv ct : Value) (us : List Value), us.length = 1 → bindArgs (PySem.W.fnOf x q (defArgs st) (defBody st) (defScope st) .none kV doc pm an cdv ct) ⟨us, []⟩ = pure ((["self"] : List Str).zip us))
    (len : ∀ vs H Q E, sp vs H Q E → vs.length = 1)
    (hbody : ∀ (f : Addr) (cdv : Value) (A : Around) (outer : List Env) (s : Shared) (H : Hp) (vs : List V) (Q : VK) (E : XK), Room k (A.deeper (envOfC q (defScope st) s.heap.objs.size f cdv)) → sp vs H Q E →
      ∃ t, PSs (cxOf CX0 P w K mg base N q (defScope st) f cdv A outer s H E).nox (defBody st) t ∧ t { nx := fun _ H' => Q .non H', rt := Q } (start N vs) H) : Prp P w K mg base (k + 1) C x sp := by
  obtain ⟨p, g, fd, h, F⟩ := D.ex
  exact ⟨p, g, fd, ["self"], c, h, F.ok S len fun cdv A outer s H vs Q E => hbody g cdv A outer s H vs Q E, F.binds b⟩
/-- len(o) by an own __len__ -/
structure Lnp (P : Program) (w : World) (K : PySem.W.Frag) (mg : Str → Option Value) (base : Heap) (k : Nat) (C : Addr) (sp : Sp) : Prop where
  ex : ∃ g fd ps, PySem.W.findIn K (.ref C) "__len__" = some (some (.ref g)) ∧ PySem.W.isFn K (.ref g) = true ∧ FnOk P w K mg base CX0 k g fd ps sp ∧ Binds K fd ps []
theorem lnp_of {q : Str} {C : Addr} {st : Stmt} {N : List Str} {k : Nat} {sp : Sp} (D : Lnd K C q st) (S : FnScope N ["self"] (defScope st)) (b : ∀ (kV doc pm : Value) (an : Option Addr) (cdv ct : Value) (us : List Value), us.length = 1 → bindArgs (PySem.W.fnOf "__len__" q (defArgs st) (defBody st) (defScope st) .none kV doc pm an cdv ct) ⟨us, []⟩ = pure ((["self"] : List Str).zip us))
    (len : ∀ vs H Q E, sp vs H Q E → vs.length = 1)
    (hbody : ∀ (f : Addr) (cdv : Value) (A : Around) (outer : List Env) (s : Shared) (H : Hp) (vs : List V) (Q : VK) (E : XK), Room k (A.deeper (envOfC q (defScope st) s.heap.objs.size f cdv)) → sp vs H Q E →
      ∃ t, PSs (cxOf CX0 P w K mg base N q (defScope st) f cdv A outer s H E).nox (defBody st) t ∧ t { nx := fun _ H' => Q .non H', rt := Q } (start N vs) H) : Lnp P w K mg base (k + 1) C sp := by
  obtain ⟨g, fd, h1, h2, F⟩ := D.ex
  exact ⟨g, fd, ["self"], h1, h2, F.ok S len fun cdv A outer s H vs Q E => hbody g cdv A outer s H vs Q E, F.binds b⟩
end
section
variable {X : Cx} {j k : Nat} {C : Addr} {x : Str} {sp : Sp} {e : Expr} {pos : Pos} {ta : TE}
theorem pe_pp (c : Prp X.prog X.w X.K X.mg X.base k C x sp) (hr : Room j X.A) (hk : k + 1 ≤ j) (he : PE X e ta) (hab : attributeBase e x X.env (eval e X.env) = eval e X.env := by rfl) : PE X (.Attribute e x pos) (tProp C sp [] E0 ta) := by
  obtain ⟨p, g, fd, ps, hc, hp, F, b⟩ := c.ex
  exact pe_prop he hc hp F (hr.mono hk) b .nil pass0 hab
theorem cr_lenP (c : Lnp X.prog X.w X.K X.mg X.base k C sp) (hr : Room j X.A) (hk : k + 1 ≤ j) : CallR X (.builtin "len") (rLenOwn C sp) := by
  obtain ⟨g, fd, ps, h1, h2, F, b⟩ := c.ex
  exact call_lenOwn h1 h2 F (hr.mono hk) b
theorem pe_keep {a : Addr} {p : Pos} (hg : Gl X x) (h : X.mg x = some (.ref a)) (hd : (x == ("__debug__" : Str)) = false := by decide) : PE X (.Name x p) (tC (.ref a)) := pe_glob hg h rfl hd
end

/-! ### the data -/
abbrev eR (r : Role) : NK := .tup [.num (r.1 : Nat), .num (r.2 : Nat)]
abbrev eB : Body → NK
  | .own o => .tup [.text "owner", .num (o : Nat)]
  | .rol r => .tup [.text "role", eR r]
  | .bth r s => .tup [.text "both", eR r, eR s]
abbrev eG (g : Grant) : NK := .tup [eR g.1, eB g.2]
theorem eR_inj {r s : Role} (h : eR r = eR s) : r = s := by
  cases r
  cases s
  simp only [eR, NestedKey.tup.injEq, List.cons.injEq, NestedKey.num.injEq, and_true] at h
  obtain ⟨h1, h2⟩ := h
  rw [Int.ofNat.inj h1, Int.ofNat.inj h2]
theorem eB_inj : ∀ {b c : Body}, eB b = eB c → b = c
  | .own o, .own p, h => by
    simp only [eB, NestedKey.tup.injEq, List.cons.injEq, NestedKey.num.injEq, and_true, true_and] at h
    rw [Int.ofNat.inj h]
  | .rol r, .rol s, h => by
    simp only [eB, NestedKey.tup.injEq, List.cons.injEq, and_true, true_and] at h
    rw [eR_inj (r := r) (s := s) (by simp only [eR, NestedKey.tup.injEq, List.cons.injEq, and_true]; exact h)]
  | .bth r s, .bth r' s', h => by
    simp only [eB, NestedKey.tup.injEq, List.cons.injEq, and_true, true_and] at h
    obtain ⟨h1, h2⟩ := h
    rw [eR_inj (r := r) (s := r') (by simp only [eR, NestedKey.tup.injEq, List.cons.injEq, and_true]; exact h1), eR_inj (r := s) (s := s') (by simp only [eR, NestedKey.tup.injEq, List.cons.injEq, and_true]; exact h2)]
  | .own o, .rol r, h => absurd h (by simp only [eB, NestedKey.tup.injEq, List.cons.injEq, NestedKey.text.injEq]; exact fun z => absurd z.1 (by decide +kernel))
  | .own o, .bth r s, h => absurd h (by simp only [eB, NestedKey.tup.injEq, List.cons.injEq, NestedKey.text.injEq]; exact fun z => absurd z.1 (by decide +kernel))
  | .rol r, .own o, h => absurd h (by simp only [eB, NestedKey.tup.injEq, List.cons.injEq, NestedKey.text.injEq]; exact fun z => absurd z.1 (by decide +kernel))
  | .rol r, .bth s t, h => absurd h (by simp only [eB, NestedKey.tup.injEq, List.cons.injEq, NestedKey.text.injEq]; exact fun z => absurd z.1 (by decide +kernel))
  | .bth r s, .own o, h => absurd h (by simp only [eB, NestedKey.tup.injEq, List.cons.injEq, NestedKey.text.injEq]; exact fun z => absurd z.1 (by decide +kernel))
  | .bth r s, .rol t, h => absurd h (by simp only [eB, NestedKey.tup.injEq, List.cons.injEq, NestedKey.text.injEq]; exact fun z => absurd z.1 (by decide +kernel))
theorem eG_inj {g h : Grant} (e : eG g = eG h) : g = h := by
  injection e with e
  injection e with h1 e
  injection e with h2 _
  exact Prod.ext (eR_inj h1) (eB_inj h2)
end G53

/-! The order of roles, bodies, grants, by ranks. -/
namespace G53
open PySem PySem.Spec PyProof.Rows L2

def rR (r : Role) : Nat := r.1 * 8 + r.2
def rB : Body → Nat
  | .bth r s => rR r * 64 + rR s
  | .own o => 4096 + o
  | .rol r => 8192 + rR r
def rG (g : Grant) : Nat := rR g.1 * 16384 + rB g.2
/-- small roles -/
def Sm (r : Role) : Prop := r.1 < 8 ∧ r.2 < 8
def SmB : Body → Prop
  | .own o => o < 8
  | .rol r => Sm r
  | .bth r s => Sm r ∧ Sm s
def SmG (g : Grant) : Prop := Sm g.1 ∧ SmB g.2
theorem rR_lt {r : Role} (h : Sm r) : rR r < 64 := by
  obtain ⟨h1, h2⟩ := h
  unfold rR
  omega
theorem rB_lt : ∀ {b : Body}, SmB b → rB b < 16384
  | .own o, h => by
    have h : o < 8 := h
    show 4096 + o < 16384
    omega
  | .rol r, h => by
    have := rR_lt h
    show 8192 + rR r < 16384
    omega
  | .bth r s, h => by
    have h1 := rR_lt h.1
    have h2 := rR_lt h.2
    show rR r * 64 + rR s < 16384
    omega
theorem rR_inj {r s : Role} (hr : Sm r) (hs : Sm s) (h : rR r = rR s) : r = s := by
  obtain ⟨a, b⟩ := r
  obtain ⟨c, d⟩ := s
  obtain ⟨h1, h2⟩ := hr
  obtain ⟨h3, h4⟩ := hs
  simp only [rR] at *
  have e1 : a = c := by omega
  have e2 : b = d := by omega
  rw [e1, e2]
theorem rB_inj : ∀ {b c : Body}, SmB b → SmB c → rB b = rB c → b = c
  | .own o, .own p, hb, hc, h => by
    simp only [rB] at h
    rw [show o = p by omega]
  | .own o, .rol p, hb, hc, h => by
    have hb : o < 8 := hb
    simp only [rB] at h
    omega
  | .own o, .bth p q, hb, hc, h => by
    have h1 := rR_lt hc.1
    have h2 := rR_lt hc.2
    simp only [rB] at h
    omega
  | .rol r, .own p, hb, hc, h => by
    have hc : p < 8 := hc
    simp only [rB] at h
    omega
  | .rol r, .rol p, hb, hc, h => by
    simp only [rB] at h
    rw [rR_inj hb hc (by omega)]
  | .rol r, .bth p q, hb, hc, h => by
    have h1 := rR_lt hc.1
    have h2 := rR_lt hc.2
    simp only [rB] at h
    omega
  | .bth r s, .own p, hb, hc, h => by
    have h1 := rR_lt hb.1
    have h2 := rR_lt hb.2
    simp only [rB] at h
    omega
  | .bth r s, .rol p, hb, hc, h => by
    have h1 := rR_lt hb.1
    have h2 := rR_lt hb.2
    simp only [rB] at h
    omega
  | .bth r s, .bth p q, hb, hc, h => by
    have h1 := rR_lt hb.1
    have h2 := rR_lt hb.2
    have h3 := rR_lt hc.1
    have h4 := rR_lt hc.2
    simp only [rB] at h
    rw [rR_inj hb.1 hc.1 (by omega), rR_inj hb.2 hc.2 (by omega)]
theorem rG_inj {g h : Grant} (hg : SmG g) (hh : SmG h) (e : rG g = rG h) : g = h := by
  have h1 := rB_lt hg.2
  have h2 := rB_lt hh.2
  simp only [rG] at e
  have e1 : rR g.1 = rR h.1 := by omega
  exact Prod.ext (rR_inj hg.1 hh.1 e1) (rB_inj hg.2 hh.2 (by omega))

theorem nbeq {i j : Int} : NestedKey.beq (.num i) (.num j) = decide (i = j) := by
  by_cases h : i = j <;> simp [NestedKey.beq, h]
theorem bq_of {x y : NK} (h : x ≠ y) : NestedKey.beq x y = false := by
  cases hb : NestedKey.beq x y with
  | false => rfl
  | true => exact absurd (NestedKey.eq_of_beq _ _ hb) h
theorem cmp_nums {a b c d : Int} : cmpK (.tup [.num a, .num b]) (.tup [.num c, .num d]) = true := by
  simp only [cmpK, cmpKs, nbeq]
  split
  · split <;> rfl
  · rfl
theorem cmp_eR (r s : Role) : cmpK (eR r) (eR s) = true := cmp_nums
theorem ord_eR {r s : Role} (hr : Sm r) (hs : Sm s) (c : Bool) : ordK c (eR r) (eR s) = if c then decide (rR r ≤ rR s) else decide (rR r < rR s) := by
  obtain ⟨a, b⟩ := r
  obtain ⟨e, d⟩ := s
  obtain ⟨h1, h2⟩ := hr
  obtain ⟨h3, h4⟩ := hs
  simp only [rR] at *
  simp only [eR, ordK, ordKs, nbeq]
  by_cases q : (a : Int) = e
  · by_cases q2 : (b : Int) = d
    · rw [if_pos (decide_eq_true q), if_pos (decide_eq_true q2)]
      cases c with
      | true => exact (decide_eq_true (by omega)).symm
      | false => exact (decide_eq_false (by omega)).symm
    · rw [if_pos (decide_eq_true q), if_neg (by simpa using q2)]
      cases c with
      | true => exact decide_eq_decide.mpr (by omega)
      | false => exact decide_eq_decide.mpr (by omega)
  · rw [if_neg (by simpa using q)]
    cases c with
    | true => exact decide_eq_decide.mpr (by omega)
    | false => exact decide_eq_decide.mpr (by omega)
theorem beq_eR {r s : Role} : NestedKey.beq (eR r) (eR s) = decide (r = s) := by
  by_cases h : r = s
  · subst h
    rw [NestedKey.beq_self, decide_eq_true rfl]
  · rw [bq_of fun e => h (eR_inj e), decide_eq_false h]
theorem ord_tt (c : Bool) (x y : Str) (xs ys : List NK) (h : x ≠ y) : ordK c (.tup (.text x :: xs)) (.tup (.text y :: ys)) = ordK c (.text x) (.text y) := by
  simp only [ordK, ordKs]
  rw [bq_of fun e => h (by injection e)]
  rfl
theorem ord_st (c : Bool) (x : Str) (xs ys : List NK) : ordK c (.tup (.text x :: xs)) (.tup (.text x :: ys)) = ordKs c xs ys := by
  simp only [ordK, ordKs]
  rw [NestedKey.beq_self]
  rfl
theorem cmp_st (x : Str) (xs ys : List NK) : cmpK (.tup (.text x :: xs)) (.tup (.text x :: ys)) = cmpKs xs ys := by
  simp only [cmpK, cmpKs]
  rw [NestedKey.beq_self]
  rfl
theorem cmp_tt (x y : Str) (xs ys : List NK) (h : x ≠ y) : cmpK (.tup (.text x :: xs)) (.tup (.text y :: ys)) = true := by
  simp only [cmpK, cmpKs]
  rw [bq_of fun e => h (by injection e)]
  rfl
theorem cmp_one {x y : NK} (h : cmpK x y = true) : cmpKs [x] [y] = true := by
  simp only [cmpKs]
  split
  · rfl
  · exact h
theorem n_ob : ("owner" : Str) ≠ "both" := by decide +kernel
theorem n_or : ("owner" : Str) ≠ "role" := by decide +kernel
theorem n_rb : ("role" : Str) ≠ "both" := by decide +kernel
theorem cmp_eB : ∀ b c : Body, cmpK (eB b) (eB c) = true
  | .own o, .own p => by
    rw [eB, eB, cmp_st]
    exact cmp_one rfl
  | .own o, .rol p => cmp_tt _ _ _ _ n_or
  | .own o, .bth p q => cmp_tt _ _ _ _ n_ob
  | .rol r, .own p => cmp_tt _ _ _ _ n_or.symm
  | .rol r, .rol p => by
    rw [eB, eB, cmp_st]
    exact cmp_one (cmp_eR r p)
  | .rol r, .bth p q => cmp_tt _ _ _ _ n_rb
  | .bth r s, .own p => cmp_tt _ _ _ _ n_ob.symm
  | .bth r s, .rol p => cmp_tt _ _ _ _ n_rb.symm
  | .bth r s, .bth p q => by
    rw [eB, eB, cmp_st]
    simp only [cmpKs]
    split
    · split
      · rfl
      · exact cmp_eR s q
    · exact cmp_eR r p
theorem o_bo (c : Bool) : ordK c (.text "both") (.text "owner") = true := by cases c <;> decide +kernel
theorem o_br (c : Bool) : ordK c (.text "both") (.text "role") = true := by cases c <;> decide +kernel
theorem o_or (c : Bool) : ordK c (.text "owner") (.text "role") = true := by cases c <;> decide +kernel
theorem o_ob (c : Bool) : ordK c (.text "owner") (.text "both") = false := by cases c <;> decide +kernel
theorem o_rb (c : Bool) : ordK c (.text "role") (.text "both") = false := by cases c <;> decide +kernel
theorem o_ro (c : Bool) : ordK c (.text "role") (.text "owner") = false := by cases c <;> decide +kernel
/-- x ≤ y or x < y of ranks -/
def rc (c : Bool) (x y : Nat) : Bool := if c then decide (x ≤ y) else decide (x < y)
theorem rc_t {c : Bool} {x y : Nat} (h : x < y) : rc c x y = true := by
  cases c with
  | true => exact decide_eq_true (Nat.le_of_lt h)
  | false => exact decide_eq_true h
theorem rc_f {c : Bool} {x y : Nat} (h : y < x) : rc c x y = false := by
  cases c with
  | true => exact decide_eq_false (by omega)
  | false => exact decide_eq_false (by omega)
theorem rc_c {c : Bool} {x y z t : Nat} (h1 : x ≤ y ↔ z ≤ t) (h2 : x < y ↔ z < t) : rc c x y = rc c z t := by
  cases c with
  | true => exact decide_eq_decide.mpr h1
  | false => exact decide_eq_decide.mpr h2
theorem ord_eB (c : Bool) : ∀ {a b : Body}, SmB a → SmB b → ordK c (eB a) (eB b) = rc c (rB a) (rB b)
  | .own o, .own p, ha, hb => by
    rw [eB, eB, ord_st]
    simp only [ordKs, nbeq, ordK]
    by_cases q : (o : Int) = p
    · rw [if_pos (decide_eq_true q)]
      have q : o = p := by omega
      subst q
      cases c <;> simp [rc]
    · rw [if_neg (by simpa using q)]
      cases c <;> simp [rc, rB] <;> omega
  | .own o, .rol p, ha, hb => by
    have ha : o < 8 := ha
    rw [eB, eB, ord_tt _ _ _ _ _ n_or, o_or, rc_t]
    simp only [rB]
    omega
  | .own o, .bth p q, ha, hb => by
    have h1 := rR_lt hb.1
    have h2 := rR_lt hb.2
    rw [eB, eB, ord_tt _ _ _ _ _ n_ob, o_ob, rc_f]
    simp only [rB]
    omega
  | .rol r, .own p, ha, hb => by
    have hb : p < 8 := hb
    rw [eB, eB, ord_tt _ _ _ _ _ n_or.symm, o_ro, rc_f]
    simp only [rB]
    omega
  | .rol r, .rol p, ha, hb => by
    rw [eB, eB, ord_st]
    simp only [ordKs, beq_eR]
    by_cases q : r = p
    · subst q
      rw [if_pos (decide_eq_true rfl)]
      cases c <;> simp [rc]
    · rw [if_neg (by simpa using q), ord_eR ha hb]
      exact rc_c (x := rR r) (y := rR p) (by simp only [rB]; omega) (by simp only [rB]; omega)
  | .rol r, .bth p q, ha, hb => by
    have h1 := rR_lt hb.1
    have h2 := rR_lt hb.2
    rw [eB, eB, ord_tt _ _ _ _ _ n_rb, o_rb, rc_f]
    simp only [rB]
    omega
  | .bth r s, .own p, ha, hb => by
    have h1 := rR_lt ha.1
    have h2 := rR_lt ha.2
    rw [eB, eB, ord_tt _ _ _ _ _ n_ob.symm, o_bo, rc_t]
    simp only [rB]
    omega
  | .bth r s, .rol p, ha, hb => by
    have h1 := rR_lt ha.1
    have h2 := rR_lt ha.2
    rw [eB, eB, ord_tt _ _ _ _ _ n_rb.symm, o_br, rc_t]
    simp only [rB]
    omega
  | .bth r s, .bth p q, ha, hb => by
    have h1 := rR_lt ha.1
    have h2 := rR_lt ha.2
    have h3 := rR_lt hb.1
    have h4 := rR_lt hb.2
    rw [eB, eB, ord_st]
    simp only [ordKs, beq_eR]
    by_cases e1 : r = p
    · subst e1
      rw [if_pos (decide_eq_true rfl)]
      by_cases e2 : s = q
      · subst e2
        rw [if_pos (decide_eq_true rfl)]
        cases c <;> simp [rc]
      · rw [if_neg (by simpa using e2), ord_eR ha.2 hb.2]
        exact rc_c (x := rR s) (y := rR q) (by simp only [rB]; omega) (by simp only [rB]; omega)
    · rw [if_neg (by simpa using e1), ord_eR ha.1 hb.1]
      have ne : rR r ≠ rR p := fun z => e1 (rR_inj ha.1 hb.1 z)
      exact rc_c (x := rR r) (y := rR p) (by simp only [rB]; omega) (by simp only [rB]; omega)
theorem cmp_eG (g h : Grant) : cmpK (eG g) (eG h) = true := by
  simp only [eG, cmpK, cmpKs]
  split
  · split
    · rfl
    · exact cmp_eB _ _
  · exact cmp_eR _ _
theorem beq_eB {b c : Body} : NestedKey.beq (eB b) (eB c) = decide (b = c) := by
  by_cases h : b = c
  · subst h
    rw [NestedKey.beq_self, decide_eq_true rfl]
  · rw [bq_of fun e => h (eB_inj e), decide_eq_false h]
theorem ord_eG (c : Bool) {g h : Grant} (hg : SmG g) (hh : SmG h) : ordK c (eG g) (eG h) = rc c (rG g) (rG h) := by
  have h1 := rB_lt hg.2
  have h2 := rB_lt hh.2
  have q1 : ordK c (eG g) (eG h) = if NestedKey.beq (eR g.1) (eR h.1) = true then ordKs c [eB g.2] [eB h.2] else ordK c (eR g.1) (eR h.1) := by rw [eG, eG, ordK, ordKs]
  have q2 : ordKs c [eB g.2] [eB h.2] = if NestedKey.beq (eB g.2) (eB h.2) = true then c else ordK c (eB g.2) (eB h.2) := by rw [ordKs, ordKs]
  rw [q1, q2, beq_eR, beq_eB]
  by_cases e1 : g.1 = h.1
  · rw [if_pos (decide_eq_true e1)]
    by_cases e2 : g.2 = h.2
    · rw [if_pos (decide_eq_true e2), Prod.ext e1 e2]
      cases c <;> simp [rc]
    · rw [if_neg (by simpa using e2), ord_eB c hg.2 hh.2]
      exact rc_c (by simp only [rG, e1]; omega) (by simp only [rG, e1]; omega)
  · rw [if_neg (by simpa using e1), ord_eR hg.1 hh.1]
    have ne : rR g.1 ≠ rR h.1 := fun z => e1 (rR_inj hg.1 hh.1 z)
    exact rc_c (x := rR g.1) (y := rR h.1) (by simp only [rG]; omega) (by simp only [rG]; omega)
theorem dep_eR (r : Role) : (eR r).depth ≤ 8 := by
  have e : (eR r).depth = 1 := by simp [eR, NestedKey.depth, NestedKey.depthAll]
  omega
theorem dep_eB (b : Body) : (eB b).depth ≤ 8 := by
  have e : (eB b).depth ≤ 2 := by cases b <;> simp [eB, eR, NestedKey.depth, NestedKey.depthAll]
  omega
theorem dep_eG (g : Grant) : (eG g).depth ≤ 8 := by
  obtain ⟨r, b⟩ := g
  have e : (eG (r, b)).depth ≤ 4 := by cases b <;> simp [eG, eB, eR, NestedKey.depth, NestedKey.depthAll]
  omega
/-- the roles' ranks, the grants' ranks on data -/
def PR (k : NK) : Prop := ∃ r, k = eR r ∧ Sm r
def PG' (k : NK) : Prop := ∃ g, k = eG g ∧ SmG g
open Classical in
noncomputable def kR (k : NK) : Int := if h : ∃ r, k = eR r then (rR h.choose : Nat) else 0
open Classical in
noncomputable def kG (k : NK) : Int := if h : ∃ g, k = eG g then (rG h.choose : Nat) else 0
theorem kR_eq (r : Role) : kR (eR r) = (rR r : Nat) := by
  have h : ∃ s, eR r = eR s := ⟨r, rfl⟩
  unfold kR
  rw [dif_pos h, ← eR_inj h.choose_spec]
theorem kG_eq (g : Grant) : kG (eG g) = (rG g : Nat) := by
  have h : ∃ s, eG g = eG s := ⟨g, rfl⟩
  unfold kG
  rw [dif_pos h, ← eG_inj h.choose_spec]
theorem rankedR : Ranked false kR PR where
  head := fun k ⟨r, e, _⟩ => ⟨_, _, e, _, rfl⟩
  deep := fun k ⟨r, e, _⟩ => e ▸ dep_eR r
  cmp := fun k l ⟨r, e, hr⟩ ⟨s, e', hs⟩ => by
    subst e e'
    refine ⟨cmp_eR r s, ?_⟩
    rw [ord_eR hr hs, kR_eq, kR_eq]
    exact decide_eq_decide.mpr (by omega)
theorem rankedG : Ranked true kG PG' where
  head := fun k ⟨g, e, _⟩ => ⟨_, _, e, _, rfl⟩
  deep := fun k ⟨g, e, _⟩ => e ▸ dep_eG g
  cmp := fun k l ⟨g, e, hg⟩ ⟨h, e', hh⟩ => by
    subst e e'
    refine ⟨cmp_eG g h, ?_⟩
    rw [ord_eG false hg hh, kG_eq, kG_eq]
    exact decide_eq_decide.mpr (by omega)
end G53

/-! From what the top has written to Txt. -/
namespace G53
open PySem PySem.Spec PyProof.Rows L2
section
variable {K : PySem.W.Frag} {h : Heap} {mg : Str → Option Value} {f p g C : Addr} {x q : Str} {st : Stmt} {od an : Option Addr} {sl : Array (Option Value)} {oc kV dc pm cd ct : Value}
theorem dfn_mk (X : K.In h) (G : h.Ns mainGlobals mg) (a : PySem.W.nsIn K mainGlobals x = some (some (.ref f))) (l : K.lookup f = some ⟨oc, od, .func (PySem.W.fnOf x x (defArgs st) (defBody st) (defScope st) .none kV dc pm an cd ct), sl⟩) (c : PySem.W.codeIn K cd x = true) (k : PySem.W.keepIn K (.ref f) = true) : Dfn K mg x st :=
  ⟨f, _, fun_mk (st := st) l c k, PySem.W.mg_of X G a⟩
theorem prd_mk (a : PySem.W.findIn K (.ref C) x = some (some (.ref p))) (s : PySem.W.specialIn K (.ref p) "__get__" = some (some (.builtin "property.__get__"))) (t : PySem.W.takesIn K (.ref p) = some true) {rest : List Value} (r : PySem.W.recIn K p "property" = some (.ref g :: rest))
    (l : K.lookup g = some ⟨oc, od, .func (PySem.W.fnOf x q (defArgs st) (defBody st) (defScope st) .none kV dc pm an cd ct), sl⟩) (c : PySem.W.codeIn K cd q = true) (k : PySem.W.keepIn K (.ref g) = true) : Prd K C x q st :=
  ⟨p, g, _, ⟨a, s, t, rest, r⟩, fun_mk (st := st) l c k⟩
theorem cld_mk (X : K.In h) (G : h.Ns mainGlobals mg) (a : PySem.W.nsIn K mainGlobals x = some (some (.ref C))) (i : PySem.W.findIn K (.ref C) "__init__" = some (some (.ref f))) (n : PySem.W.isFn K (.ref f) = true)
    (l : K.lookup f = some ⟨oc, od, .func (PySem.W.fnOf "__init__" q (defArgs st) (defBody st) (defScope st) .none kV dc pm an cd ct), sl⟩) (c : PySem.W.codeIn K cd q = true) (k : PySem.W.keepIn K (.ref f) = true)
    (mk : PySem.W.makesIn K C = true) (kc : PySem.W.keepIn K (.ref C) = true) (pg : PySem.W.plainGet K C Str.empty = true) (hd : PySem.W.hasDictIn K C = true) (po : PySem.W.plainOver K C = true) (sa : PySem.W.findIn K (.ref C) "__setattr__" = some (some (.builtin "object.__setattr__"))) (np : PySem.W.findIn K (.ref C) "parts" = some none) : Cld K mg C x q st :=
  ⟨⟨f, _, ⟨mk, i, n, kc⟩, fun_mk (st := st) l c k, PySem.W.mg_of X G a⟩, ⟨pg, hd, po, sa⟩, np⟩
theorem clt_mk (X : K.In h) (G : h.Ns mainGlobals mg) (a : PySem.W.nsIn K mainGlobals x = some (some (.ref C))) (i : PySem.W.findIn K (.ref C) "__init__" = some (some (.ref f))) (n : PySem.W.isFn K (.ref f) = true) {T e1 e2 : Addr} {d2 : Option Addr} {m2 : Nat} {oc2 : Value} {sl2 : Array (Option Value)}
    (l : K.lookup f = some ⟨oc, od, .func (PySem.W.fnOf "__init__" q (defArgs st) (defBody st) (defScope st) (.ref T) kV dc pm an cd ct), sl⟩) (d : K.lookup T = some ⟨oc2, d2, .seq #[.ref e1, .ref e2] m2, sl2⟩) (c : PySem.W.codeIn K cd q = true) (k : PySem.W.keepIn K (.ref f) = true)
    (mk : PySem.W.makesIn K C = true) (kc : PySem.W.keepIn K (.ref C) = true) (pg : PySem.W.plainGet K C Str.empty = true) (hd : PySem.W.hasDictIn K C = true) (po : PySem.W.plainOver K C = true) (sa : PySem.W.findIn K (.ref C) "__setattr__" = some (some (.builtin "object.__setattr__"))) (np : PySem.W.findIn K (.ref C) "parts" = some none) : Clt K mg C x q st :=
  ⟨⟨f, _, e1, e2, ⟨mk, i, n, kc⟩, ⟨⟨oc, od, _, kV, dc, pm, an, cd, ct, sl, rfl, l, c, .inr ⟨by simp, T, _, [.ref e1, .ref e2], m2, rfl, d, rfl, .cons rfl (.cons rfl .nil)⟩, .inl rfl⟩, k⟩, PySem.W.mg_of X G a⟩, ⟨pg, hd, po, sa⟩, np⟩
theorem lnd_mk (a : PySem.W.findIn K (.ref C) "__len__" = some (some (.ref g))) (n : PySem.W.isFn K (.ref g) = true) (l : K.lookup g = some ⟨oc, od, .func (PySem.W.fnOf "__len__" q (defArgs st) (defBody st) (defScope st) .none kV dc pm an cd ct), sl⟩) (c : PySem.W.codeIn K cd q = true) (k : PySem.W.keepIn K (.ref g) = true) : Lnd K C q st :=
  ⟨g, _, a, n, fun_mk (st := st) l c k⟩
theorem blt_mk (X : K.In h) (G : h.Ns mainGlobals mg) (a : PySem.W.nsIn K mainGlobals x = some none) : mg x = none := PySem.W.mg_none_of X G a
theorem int_mk (X : K.In h) (G : h.Ns mainGlobals mg) {i : Int} {t : Tok} (a : PySem.W.nsIn K mainGlobals x = some (some (.int i t))) : ∃ u, mg x = some u ∧ RelV (.int i) u := ⟨_, PySem.W.mg_of X G a, _, rfl⟩
theorem keep_mk (X : K.In h) (G : h.Ns mainGlobals mg) {a : Addr} {x1 x2 x3 : Str} {t1 t2 t3 : Tok} {n : Nat} {d : Option Addr} (e : PySem.W.nsIn K mainGlobals x = some (some (.ref a))) (l : K.lookup a = some ⟨.type "tuple", d, .seq #[.str x1 t1, .str x2 t2, .str x3 t3] n, sl⟩) :
    ∃ a, mg x = some (.ref a) ∧ ∀ H : Hp, SqT K H a [.str x1, .str x2, .str x3] :=
  ⟨a, PySem.W.mg_of X G e, fun H => .inr ⟨_, _, n, l, rfl, rfl, by show 3 ≤ sizeLine; decide, .cons ⟨_, rfl⟩ (.cons ⟨_, rfl⟩ (.cons ⟨_, rfl⟩ .nil))⟩⟩
end
end G53

/-! The walk, first part: the looks at data. -/
namespace G53
open PySem PySem.Spec PyProof.Rows L2

section
variable {K : PySem.W.Frag} {H H' : Hp} {Q : VK} {a : Addr} {v : V}
theorem isi_ii {i : Int} (h : Q (.bl true) H) : rIsi K [.int i, .ty "int"] H Q := ⟨_, _, _, _, true, rfl, .ty _, .base (.int i), kit_ty (by decide +kernel), h⟩
theorem isi_ib {i : Int} (h : Q (.bl false) H) : rIsi K [.int i, .ty "bool"] H Q := ⟨_, _, _, _, false, rfl, .ty _, .base (.int i), kit_ty (by decide +kernel), h⟩
theorem isi_t {xs : List V} (e : H a = some (.tup xs)) (h : Q (.bl true) H) : rIsi K [.ref a, .ty "tuple"] H Q := ⟨_, _, _, _, true, rfl, .ty _, .base (.tup e), kit_ty (by decide +kernel), h⟩
theorem isi_s {x : Str} (h : Q (.bl true) H) : rIsi K [.str x, .ty "str"] H Q := ⟨_, _, _, _, true, rfl, .ty _, .base (.str x), kit_ty (by decide +kernel), h⟩
theorem dR {r : Role} (d : DV H (eR r) v) : ∃ a, v = .ref a ∧ H a = some (.tup [.int (r.1 : Nat), .int (r.2 : Nat)]) := by
  cases d with
  | tup e d =>
    cases d with
    | cons d1 d =>
      cases d with
      | cons d2 d =>
        cases d
        cases d1
        cases d2
        exact ⟨_, rfl, e⟩
theorem dG {g : Grant} (d : DV H (eG g) v) : ∃ a x y, v = .ref a ∧ H a = some (.tup [x, y]) ∧ DV H (eR g.1) x ∧ DV H (eB g.2) y := by
  cases d with
  | tup e d =>
    cases d with
    | cons d1 d =>
      cases d with
      | cons d2 d =>
        cases d
        exact ⟨_, _, _, rfl, e, d1, d2⟩
theorem dB1 {o : Nat} (d : DV H (eB (.own o)) v) : ∃ a, v = .ref a ∧ H a = some (.tup [.str "owner", .int (o : Nat)]) := by
  cases d with
  | tup e d =>
    cases d with
    | cons d1 d =>
      cases d with
      | cons d2 d =>
        cases d
        cases d1
        cases d2
        exact ⟨_, rfl, e⟩
theorem dB2 {r : Role} (d : DV H (eB (.rol r)) v) : ∃ a x, v = .ref a ∧ H a = some (.tup [.str "role", x]) ∧ DV H (eR r) x := by
  cases d with
  | tup e d =>
    cases d with
    | cons d1 d =>
      cases d with
      | cons d2 d =>
        cases d
        cases d1
        exact ⟨_, _, rfl, e, d2⟩
theorem dB3 {r s : Role} (d : DV H (eB (.bth r s)) v) : ∃ a x y, v = .ref a ∧ H a = some (.tup [.str "both", x, y]) ∧ DV H (eR r) x ∧ DV H (eR s) y := by
  cases d with
  | tup e d =>
    cases d with
    | cons d1 d =>
      cases d with
      | cons d2 d =>
        cases d with
        | cons d3 d =>
          cases d
          cases d1
          exact ⟨_, _, _, rfl, e, d2, d3⟩
theorem mkR {r : Role} (e : H a = some (.tup [.int (r.1 : Nat), .int (r.2 : Nat)])) : DV H (eR r) (.ref a) := .tup e (.cons (.num _) (.cons (.num _) .nil))
theorem tk_upd {p : Addr} {o : HO} (h : H p = none) : Tk H (upd H p o) := (Tk.refl H).new h
theorem same_upd {p : Addr} {o : HO} (h : H p = none) : Same H (upd H p o) := Same.new (Same.refl H) h
end

section
variable {X : Cx} {K : PySem.W.Frag}
theorem ix_tupK (h : X.K = K) : IxR X (rIxT K) := h ▸ ix_tup
theorem op_inK (h : X.K = K) (hu : X.A.units + 64 < cLine) : OpR X (compareOp .In) (rInN K false) := h ▸ op_inN hu
theorem op_notInK (h : X.K = K) (hu : X.A.units + 64 < cLine) : OpR X (compareOp .NotIn) (rInN K true) := h ▸ op_notInN hu
/-- (x, y) = a pair -/
theorem pg_two {i j : Nat} {x y : Str} {p1 p2 pos : Pos} {k : Nat} (hK : X.K = K) (hc : X.calm = true) (hN : X.N.Nodup) (hi : X.N[i]? = some x) (hj : X.N[j]? = some y) (hx : Loc X.env.scope x) (hy : Loc X.env.scope y) (fx : X.fn x = true ∨ X.env.scope.names.lookup x = some .local) (fy : X.fn y = true ∨ X.env.scope.names.lookup y = some .local) :
    PG X (.Tuple [.Name x p1, .Name y p2] k pos) (gTup K 2 (gCons (gName i) (gCons (gName j) gNil))) := by
  subst hK
  exact pg_tup hc (pgs_cons (pg_name hN hi hx fx) (pgs_cons (pg_name hN hj hy fy) pgs_nil))
end
theorem ifF {b : Bool} {A B : Prop} (hb : b = false) (h : B) : if b = true then A else B := by
  rw [hb]
  exact iteF h
theorem ifT {b : Bool} {A B : Prop} (hb : b = true) (h : A) : if b = true then A else B := by
  rw [hb]
  exact iteT h
theorem sub1 {i n : Nat} (h : i < n) : (decide ((0 : Int) ≤ ((i : Nat) : Int)) && decide (((i : Nat) : Int) ≤ ((n : Nat) : Int) - 1)) = true := by
  simp
  omega
/-- a role of these owners and labels -/
def OkR (n l : Nat) (r : Role) : Prop := r.1 < n ∧ r.2 < l
def OkB (n l : Nat) : Body → Prop
  | .own o => o < n
  | .rol r => OkR n l r
  | .bth r s => OkR n l r ∧ OkR n l s ∧ rR r < rR s
theorem OkR.sm {n l : Nat} {r : Role} (hn : n ≤ 8) (hl : l ≤ 8) (h : OkR n l r) : Sm r := ⟨Nat.lt_of_lt_of_le h.1 hn, Nat.lt_of_lt_of_le h.2 hl⟩
def OkG (n l : Nat) (g : Grant) : Prop := OkR n l g.1 ∧ OkB n l g.2

def sp_is_integer : Sp := fun vs H Q _ => ∃ i lo hi : Int, vs = [.int i, .int lo, .int hi] ∧ Q (.bl (decide (lo ≤ i) && decide (i ≤ hi))) H
def sp_is_role : Sp := fun vs H Q _ => ∃ (n l : Nat) (r : Role) (v : V), vs = [.int (n : Nat), .int (l : Nat), v] ∧ DV H (eR r) v ∧ OkR n l r ∧ Q (.bl true) H
def sp_is_word (K : PySem.W.Frag) : Sp := fun vs H Q _ => ∃ (x : Str) (a : Addr) (ys : List V), vs = [.str x, .ref a] ∧ SqT K H a ys ∧ ys.all flatV = true ∧ inV (.str x) ys = true ∧ Q (.bl true) H
def sp_is_body : Sp := fun vs H Q _ => ∃ (n l : Nat) (b : Body) (v : V), vs = [.int (n : Nat), .int (l : Nat), v] ∧ DV H (eB b) v ∧ n ≤ 8 ∧ l ≤ 8 ∧ OkB n l b ∧ ∀ H', Same H H' → Q (.bl true) H'
def sp_grant_word : Sp := fun vs H Q _ => ∃ (n l : Nat) (g : Grant) (v : V), vs = [.int (n : Nat), .int (l : Nat), v] ∧ DV H (eG g) v ∧ n ≤ 8 ∧ l ≤ 8 ∧ OkG n l g ∧ ∀ H', Same H H' → Q .non H'

section
variable {P : Program} {w : World} {K : PySem.W.Frag} {mg : Str → Option Value} {base : Heap} {CP CS : Addr}
theorem sc_is_integer : FnScope ["value", "low", "high"] ["value", "low", "high"] (defScope t_is_integer) := ⟨rfl, rfl, rfl, by decide +kernel, rfl, by decide +kernel, by decide +kernel⟩
theorem ok_is_integer (T : Txt K mg CP CS) : C8.Cal P w K mg base 1 "is_integer" sp_is_integer [] := by
  refine cal_of T.d_is_integer sc_is_integer (fun _ _ _ _ _ _ us hl => match us, hl with | [_, _, _], _ => rfl) (fun vs H Q E h => ?_) (fun f cdv A outer s H vs Q E hr h => ?_)
  · obtain ⟨i, lo, hi, rfl, _⟩ := h
    rfl
  · obtain ⟨i, lo, hi, rfl, h⟩ := h
    refine ⟨_, (pss_one (ps_ret (pe_and (pe_callB call_isi (by rfl) T.b_isinstance bo_isinstance (pa_cons (pv 0) (pa_cons (pe_bltn (v := .ty "int") (by rfl) T.b_int bo_int rfl) pa_nil))) (pe_and (pe_not (pe_callB call_isi (by rfl) T.b_isinstance bo_isinstance (pa_cons (pv 0) (pa_cons (pe_bltn (v := .ty "bool") (by rfl) T.b_bool bo_bool rfl) pa_nil)))) (pe_one (pe_chain op_le op_le (pv 1) (pv 0) (pv 2))))))), ?_⟩
    refine ⟨_, rfl, _, _, _, _, true, rfl, .ty _, .base (.int _), kit_ty (by decide +kernel), _, rfl, iteT ⟨_, rfl, _, _, _, _, false, rfl, .ty _, .base (.int _), kit_ty (by decide +kernel), _, rfl, _, rfl, iteT ?_⟩⟩
    refine ⟨_, rfl, _, rfl, _, _, rfl, rfl, _, rfl, ?_⟩
    cases hb : decide (lo ≤ i) with
    | false =>
      rw [hb] at h
      exact iteF h
    | true =>
      rw [hb] at h
      exact iteT ⟨_, rfl, _, _, rfl, rfl, h⟩
theorem sc_is_role : FnScope ["owners", "labels", "value"] ["owners", "labels", "value"] (defScope t_is_role) := ⟨rfl, rfl, rfl, by decide +kernel, rfl, by decide +kernel, by decide +kernel⟩
theorem ok_is_role (T : Txt K mg CP CS) : C8.Cal P w K mg base 2 "is_role" sp_is_role [] := by
  have c_is_integer := ok_is_integer (P := P) (w := w) (base := base) T
  refine cal_of T.d_is_role sc_is_role (fun _ _ _ _ _ _ us hl => match us, hl with | [_, _, _], _ => rfl) (fun vs H Q E h => ?_) (fun f cdv A outer s H vs Q E hr h => ?_)
  · obtain ⟨n, l, r, v, rfl, _⟩ := h
    rfl
  · obtain ⟨n, l, r, v, rfl, d, ⟨o1, o2⟩, q⟩ := h
    obtain ⟨a, rfl, e⟩ := dR d
    refine ⟨_, (pss_cons (ps_if (PW.pt (pw_or (pt_not (pt_val (pe_callB call_isi (by rfl) T.b_isinstance bo_isinstance (pa_cons (pv 2) (pa_cons (pe_bltn (v := .ty "tuple") (by rfl) T.b_tuple bo_tuple rfl) pa_nil))))) (pw_or1 (pt_cmpR op_ne (pe_callB call_len_seq (by rfl) T.b_len bo_len (pa_cons (pv 2) pa_nil)) pe_int (nomark _))))) (pss_one (ps_ret pe_bl)) pss_nil)
      (pss_one (ps_ret (pe_and (C8.pe_c c_is_integer hr (by decide) (by rfl) (pa_cons (pe_ix ix_tup (pv 2) pe_int (fun _ _ => rfl)) (pa_cons pe_int (pa_cons (pe_op op_sub (pv 0) pe_int) pa_nil)))) (pe_one (C8.pe_c c_is_integer hr (by decide) (by rfl) (pa_cons (pe_ix ix_tup (pv 2) pe_int (fun _ _ => rfl)) (pa_cons pe_int (pa_cons (pe_op op_sub (pv 1) pe_int) pa_nil))))))))), ?_⟩
    refine ⟨_, rfl, _, _, _, _, true, rfl, .ty _, .base (.tup e), kit_ty (by decide +kernel), _, rfl, iteF ⟨_, rfl, _, _, rfl, .inr (.of e), rfl, _, rfl, iteNS rfl ?_⟩⟩
    refine ⟨_, rfl, _, _, _, _, rfl, rfl, .of e, rfl, _, rfl, _, _, rfl, rfl, _, _, _, rfl, _, rfl, ?_⟩
    rw [sub1 o1]
    refine iteT ⟨_, rfl, _, _, _, _, rfl, rfl, .of e, rfl, _, rfl, _, _, rfl, rfl, _, _, _, rfl, ?_⟩
    rw [sub1 o2]
    exact q
theorem sc_is_word : FnScope ["value", "words"] ["value", "words"] (defScope t_is_word) := ⟨rfl, rfl, rfl, by decide +kernel, rfl, by decide +kernel, by decide +kernel⟩
theorem ok_is_word (T : Txt K mg CP CS) : C8.Cal P w K mg base 1 "is_word" (sp_is_word K) [] := by
  refine cal_of T.d_is_word sc_is_word (fun _ _ _ _ _ _ us hl => match us, hl with | [_, _], _ => rfl) (fun vs H Q E h => ?_) (fun f cdv A outer s H vs Q E hr h => ?_)
  · obtain ⟨x, a, ys, rfl, _⟩ := h
    rfl
  · obtain ⟨x, a, ys, rfl, e, f1, f2, q⟩ := h
    refine ⟨_, (pss_one (ps_ret (pe_and (pe_callB call_isi (by rfl) T.b_isinstance bo_isinstance (pa_cons (pv 0) (pa_cons (pe_bltn (v := .ty "str") (by rfl) T.b_str bo_str rfl) pa_nil))) (pe_one (pe_cmpR op_in_seq (pv 0) (pv 1) (by with_unfolding_all rfl)))))), ?_⟩
    refine ⟨_, rfl, _, _, _, _, true, rfl, .ty _, .base (.str _), kit_ty (by decide +kernel), _, rfl, iteT ⟨_, rfl, _, rfl, _, _, rfl, .inr e, rfl, f1, ?_⟩⟩
    rw [f2]
    exact q
theorem sc_is_body : FnScope ["owners", "labels", "value"] ["owners", "labels", "value"] (defScope t_is_body) := ⟨rfl, rfl, rfl, by decide +kernel, rfl, by decide +kernel, by decide +kernel⟩
theorem ok_is_body (T : Txt K mg CP CS) : C8.Cal P w K mg base 3 "is_body" sp_is_body [] := by
  have c_is_integer := ok_is_integer (P := P) (w := w) (base := base) T
  have c_is_role := ok_is_role (P := P) (w := w) (base := base) T
  have c_is_word := ok_is_word (P := P) (w := w) (base := base) T
  refine cal_of T.d_is_body sc_is_body (fun _ _ _ _ _ _ us hl => match us, hl with | [_, _, _], _ => rfl) (fun vs H Q E h => ?_) (fun f cdv A outer s H vs Q E hr h => ?_)
  · obtain ⟨n, l, b, v, rfl, _⟩ := h
    rfl
  · obtain ⟨n, l, b, v, rfl, d, hn, hl, ok, q⟩ := h
    refine ⟨_, (pss_cons (ps_if (PW.pt (pw_or (pt_not (pt_val (pe_callB call_isi (by rfl) T.b_isinstance bo_isinstance (pa_cons (pv 2) (pa_cons (pe_bltn (v := .ty "tuple") (by rfl) T.b_tuple bo_tuple rfl) pa_nil))))) (pw_or (pt_cmpR op_lt (pe_callB call_len_seq (by rfl) T.b_len bo_len (pa_cons (pv 2) pa_nil)) pe_int (nomark _)) (pw_or1 (pt_not (pt_val (C8.pe_c c_is_word hr (by decide) (by rfl) (pa_cons (pe_ix ix_tup (pv 2) pe_int (fun _ _ => rfl)) (pa_cons (pe_tup (pa_cons pe_str (pa_cons pe_str (pa_cons pe_str (pa_cons pe_str pa_nil))))) pa_nil))))))))) (pss_one (ps_ret pe_bl)) pss_nil)
      (pss_cons (ps_if (pt_cmpR op_ne (pe_callB call_len_seq (by rfl) T.b_len bo_len (pa_cons (pv 2) pa_nil)) (pe_ifExp (pt_cmpR op_in_seq (pe_ix ix_tup (pv 2) pe_int (fun _ _ => rfl)) (pe_tup (pa_cons pe_str (pa_cons pe_str pa_nil))) (by with_unfolding_all rfl)) pe_int pe_int) (nomark _)) (pss_one (ps_ret pe_bl)) pss_nil)
      (pss_cons (ps_if (pt_cmpR op_eq (pe_ix ix_tup (pv 2) pe_int (fun _ _ => rfl)) pe_str (nomark _)) (pss_one (ps_ret (C8.pe_c c_is_integer hr (by decide) (by rfl) (pa_cons (pe_ix ix_tup (pv 2) pe_int (fun _ _ => rfl)) (pa_cons pe_int (pa_cons (pe_op op_sub (pv 0) pe_int) pa_nil)))))) pss_nil)
      (pss_cons (ps_if (pt_not (pt_val (C8.pe_c c_is_role hr (by decide) (by rfl) (pa_cons (pv 0) (pa_cons (pv 1) (pa_cons (pe_ix ix_tup (pv 2) pe_int (fun _ _ => rfl)) pa_nil)))))) (pss_one (ps_ret pe_bl)) pss_nil)
      (pss_cons (ps_if (pt_cmpR op_eq (pe_ix ix_tup (pv 2) pe_int (fun _ _ => rfl)) pe_str (nomark _)) (pss_one (ps_ret (C8.pe_c c_is_integer hr (by decide) (by rfl) (pa_cons (pe_ix ix_tup (pv 2) pe_int (fun _ _ => rfl)) (pa_cons pe_int (pa_cons (pe_op op_sub (pv 1) pe_int) pa_nil)))))) pss_nil)
      (pss_one (ps_ret (pe_or (pe_cmpR op_eq (pe_ix ix_tup (pv 2) pe_int (fun _ _ => rfl)) pe_str (nomark _)) (pe_one (pe_and (C8.pe_c c_is_role hr (by decide) (by rfl) (pa_cons (pv 0) (pa_cons (pv 1) (pa_cons (pe_ix ix_tup (pv 2) pe_int (fun _ _ => rfl)) pa_nil)))) (pe_one (pe_cmpR (op_ltN hr.units) (pe_ix ix_tup (pv 2) pe_int (fun _ _ => rfl)) (pe_ix ix_tup (pv 2) pe_int (fun _ _ => rfl)) (nomark _))))))))))))), ?_⟩
    cases b with
    | own o =>
      obtain ⟨a, rfl, e⟩ := dB1 d
      refine ⟨_, rfl, _, _, _, _, true, rfl, .ty _, .base (.tup e), kit_ty (by decide +kernel), _, rfl, iteF ⟨_, rfl, _, _, rfl, .inr (.of e), _, _, rfl, rfl, _, rfl, ifF rfl ⟨_, rfl, _, _, _, _, rfl, rfl, .of e, rfl, by decide, fun p hp => ?_⟩⟩⟩
      have s1 : Same H _ := same_upd (o := .tup [.str "owner", .str "role", .str "through", .str "both"]) hp
      have e1 := s1 _ _ e
      refine ⟨_, _, _, rfl, .of upd_same, rfl, by decide +kernel, _, rfl, iteF ?_⟩
      refine ⟨_, rfl, _, _, rfl, .inr (.of e1), _, rfl, _, _, _, _, rfl, rfl, .of e1, rfl, by decide, fun p2 hp2 => ?_⟩
      have s2 := s1.trans (same_upd (o := .tup [.str "owner", .str "role"]) hp2)
      have e2 := s2 _ _ e
      refine ⟨_, _, rfl, .inr (.of upd_same), rfl, rfl, _, rfl, ifT (by decide +kernel) ⟨rfl, _, rfl, iteNS rfl ?_⟩⟩
      refine ⟨_, rfl, _, _, _, _, rfl, rfl, .of e2, rfl, rfl, _, rfl, ifT (by decide +kernel) ?_⟩
      refine ⟨_, rfl, _, _, _, _, rfl, rfl, .of e2, rfl, _, rfl, _, _, rfl, rfl, _, _, _, rfl, ?_⟩
      rw [sub1 ok]
      exact q _ s2
    | rol r =>
      obtain ⟨a, x, rfl, e, dx⟩ := dB2 d
      refine ⟨_, rfl, _, _, _, _, true, rfl, .ty _, .base (.tup e), kit_ty (by decide +kernel), _, rfl, iteF ⟨_, rfl, _, _, rfl, .inr (.of e), _, _, rfl, rfl, _, rfl, ifF rfl ⟨_, rfl, _, _, _, _, rfl, rfl, .of e, rfl, by decide, fun p hp => ?_⟩⟩⟩
      have s1 : Same H _ := same_upd (o := .tup [.str "owner", .str "role", .str "through", .str "both"]) hp
      have e1 := s1 _ _ e
      refine ⟨_, _, _, rfl, .of upd_same, rfl, by decide +kernel, _, rfl, iteF ?_⟩
      refine ⟨_, rfl, _, _, rfl, .inr (.of e1), _, rfl, _, _, _, _, rfl, rfl, .of e1, rfl, by decide, fun p2 hp2 => ?_⟩
      have s2 := s1.trans (same_upd (o := .tup [.str "owner", .str "role"]) hp2)
      have e2 := s2 _ _ e
      have d2 := dx.mono (.of_same s2)
      refine ⟨_, _, rfl, .inr (.of upd_same), rfl, rfl, _, rfl, ifT (by decide +kernel) ⟨rfl, _, rfl, iteNS rfl ?_⟩⟩
      refine ⟨_, rfl, _, _, _, _, rfl, rfl, .of e2, rfl, rfl, _, rfl, ifF (by decide +kernel) ?_⟩
      refine ⟨_, rfl, _, rfl, _, rfl, _, _, _, _, rfl, rfl, .of e2, rfl, _, _, _, _, rfl, d2, ok, _, rfl, iteF ?_⟩
      refine ⟨_, rfl, _, _, _, _, rfl, rfl, .of e2, rfl, rfl, _, rfl, ifF (by decide +kernel) ?_⟩
      refine ⟨_, rfl, _, _, _, _, rfl, rfl, .of e2, rfl, rfl, _, rfl, ifT (by decide +kernel) (q _ s2)⟩
    | bth r s =>
      obtain ⟨a, x, y, rfl, e, dx, dy⟩ := dB3 d
      obtain ⟨o1, o2, o3⟩ := ok
      refine ⟨_, rfl, _, _, _, _, true, rfl, .ty _, .base (.tup e), kit_ty (by decide +kernel), _, rfl, iteF ⟨_, rfl, _, _, rfl, .inr (.of e), _, _, rfl, rfl, _, rfl, ifF rfl ⟨_, rfl, _, _, _, _, rfl, rfl, .of e, rfl, by decide, fun p hp => ?_⟩⟩⟩
      have s1 : Same H _ := same_upd (o := .tup [.str "owner", .str "role", .str "through", .str "both"]) hp
      have e1 := s1 _ _ e
      refine ⟨_, _, _, rfl, .of upd_same, rfl, by decide +kernel, _, rfl, iteF ?_⟩
      refine ⟨_, rfl, _, _, rfl, .inr (.of e1), _, rfl, _, _, _, _, rfl, rfl, .of e1, rfl, by decide, fun p2 hp2 => ?_⟩
      have s2 := s1.trans (same_upd (o := .tup [.str "owner", .str "role"]) hp2)
      have e2 := s2 _ _ e
      have d2 := dx.mono (.of_same s2)
      have d3 := dy.mono (.of_same s2)
      refine ⟨_, _, rfl, .inr (.of upd_same), rfl, rfl, _, rfl, ifF (by decide +kernel) ⟨rfl, _, rfl, iteNS rfl ?_⟩⟩
      refine ⟨_, rfl, _, _, _, _, rfl, rfl, .of e2, rfl, rfl, _, rfl, ifF (by decide +kernel) ?_⟩
      refine ⟨_, rfl, _, rfl, _, rfl, _, _, _, _, rfl, rfl, .of e2, rfl, _, _, _, _, rfl, d2, o1, _, rfl, iteF ?_⟩
      refine ⟨_, rfl, _, _, _, _, rfl, rfl, .of e2, rfl, rfl, _, rfl, ifF (by decide +kernel) ?_⟩
      refine ⟨_, rfl, _, _, _, _, rfl, rfl, .of e2, rfl, rfl, _, rfl, ifF (by decide +kernel) ?_⟩
      refine ⟨_, rfl, _, rfl, _, rfl, _, _, _, _, rfl, rfl, .of e2, rfl, _, _, _, _, rfl, d3, o2, _, rfl, iteT ?_⟩
      refine ⟨_, rfl, _, _, _, _, rfl, rfl, .of e2, rfl, _, rfl, _, _, _, _, rfl, rfl, .of e2, rfl, _, _, d2, d3, dep_eR _, cmp_eR _ _, ?_⟩
      rw [ord_eR (o1.sm hn hl) (o2.sm hn hl)]
      rw [show (if false = true then decide (rR r ≤ rR s) else decide (rR r < rR s)) = true from decide_eq_true o3]
      exact q _ s2
theorem sc_grant_word : FnScope ["owners", "labels", "value"] ["owners", "labels", "value"] (defScope t_grant_word) := ⟨rfl, rfl, rfl, by decide +kernel, rfl, by decide +kernel, by decide +kernel⟩
theorem ok_grant_word (T : Txt K mg CP CS) : C8.Cal P w K mg base 4 "grant_word" sp_grant_word [] := by
  have c_is_role := ok_is_role (P := P) (w := w) (base := base) T
  have c_is_body := ok_is_body (P := P) (w := w) (base := base) T
  refine cal_of T.d_grant_word sc_grant_word (fun _ _ _ _ _ _ us hl => match us, hl with | [_, _, _], _ => rfl) (fun vs H Q E h => ?_) (fun f cdv A outer s H vs Q E hr h => ?_)
  · obtain ⟨n, l, b, v, rfl, _⟩ := h
    rfl
  · obtain ⟨n, l, g, v, rfl, d, hn, hl, ⟨o1, o2⟩, q⟩ := h
    obtain ⟨a, x, y, rfl, e, dx, dy⟩ := dG d
    refine ⟨_, (pss_cons (ps_if (PW.pt (pw_or (pt_not (pt_val (pe_callB call_isi (by rfl) T.b_isinstance bo_isinstance (pa_cons (pv 2) (pa_cons (pe_bltn (v := .ty "tuple") (by rfl) T.b_tuple bo_tuple rfl) pa_nil))))) (pw_or1 (pt_cmpR op_ne (pe_callB call_len_seq (by rfl) T.b_len bo_len (pa_cons (pv 2) pa_nil)) pe_int (nomark _))))) (pss_one (ps_ret pe_str)) pss_nil)
      (pss_cons (ps_if (pt_not (pt_val (C8.pe_c c_is_role hr (by decide) (by rfl) (pa_cons (pv 0) (pa_cons (pv 1) (pa_cons (pe_ix ix_tup (pv 2) pe_int (fun _ _ => rfl)) pa_nil)))))) (pss_one (ps_ret pe_str)) pss_nil)
      (pss_one (ps_ret (pe_ifExp (pt_val (C8.pe_c c_is_body hr (by decide) (by rfl) (pa_cons (pv 0) (pa_cons (pv 1) (pa_cons (pe_ix ix_tup (pv 2) pe_int (fun _ _ => rfl)) pa_nil))))) pe_non pe_str))))), ?_⟩
    refine ⟨_, rfl, _, _, _, _, true, rfl, .ty _, .base (.tup e), kit_ty (by decide +kernel), _, rfl, iteF ⟨_, rfl, _, _, rfl, .inr (.of e), rfl, _, rfl, iteNS rfl ?_⟩⟩
    refine ⟨_, rfl, _, rfl, _, rfl, _, _, _, _, rfl, rfl, .of e, rfl, _, _, _, _, rfl, dx, o1, _, rfl, iteF ?_⟩
    refine ⟨_, rfl, _, rfl, _, rfl, _, _, _, _, rfl, rfl, .of e, rfl, _, _, _, _, rfl, dy, hn, hl, o2, fun H' s' => ⟨_, rfl, iteT (q _ s')⟩⟩
end
end G53


/-! The walk: all roles, rows of roles, a policy's check. -/
namespace G53
open PySem PySem.Spec PyProof.Rows L2

theorem sNew {H H' : Hp} {p : Addr} {o : HO} (s : L2.Same H H') (h : H' p = none) : L2.Same H (upd H' p o) := Same.new s h
theorem sUp {H H' : Hp} {p : Addr} {o : HO} (s : L2.Same H H') (h : H p = none) : L2.Same H (upd H' p o) := Same.up s h
theorem tk_put {H : Hp} {p : Addr} {xs : List V} {o : HO} (e : H p = some (.lst xs)) : Tk H (upd H p o) := fun b ys q => by
  rw [upd_ne fun z => by rw [z, e] at q; cases q]
  exact q
def rowR (i l : Nat) : List Role := (List.range l).map fun k => (i, k)
def allR (n l : Nat) : List Role := (List.range n).flatMap fun i => rowR i l
theorem rowR_succ (i k : Nat) : rowR i (k + 1) = rowR i k ++ [(i, k)] := by simp [rowR, List.range_succ]
theorem allR_succ (i l : Nat) : allR (i + 1) l = allR i l ++ rowR i l := by simp [allR, List.range_succ, List.flatMap_append]
theorem rowR_len (i l : Nat) : (rowR i l).length = l := by simp [rowR]
theorem allR_len : ∀ n l : Nat, (allR n l).length = n * l
  | 0, l => by simp [allR]
  | n + 1, l => by
    rw [allR_succ, List.length_append, allR_len n l, rowR_len, Nat.succ_mul]
theorem mem_allR {n l : Nat} {r : Role} : r ∈ allR n l ↔ OkR n l r := by
  obtain ⟨a, b⟩ := r
  simp only [allR, rowR, List.mem_flatMap, List.mem_range, List.mem_map, Prod.mk.injEq, OkR]
  constructor
  · rintro ⟨i, hi, k, hk, rfl, rfl⟩
    exact ⟨hi, hk⟩
  · rintro ⟨h1, h2⟩
    exact ⟨a, h1, b, h2, rfl, rfl⟩
theorem small8 {n l : Nat} (hn : n ≤ 8) (hl : l ≤ 8) : n * l ≤ 64 := Nat.mul_le_mul hn hl
/-- a new tuple of new roles -/
def sp_all_roles : Sp := fun vs H Q _ => ∃ n l : Nat, vs = [.int (n : Nat), .int (l : Nat)] ∧ n ≤ 8 ∧ l ≤ 8 ∧ ∀ H' t ws, Same H H' → H' t = some (.tup ws) → DVs H' ((allR n l).map eR) ws → Q (.ref t) H'
def sp_law_all_roles : Sp := fun vs H Q _ => ∃ n l : Nat, vs = [.int (n : Nat), .int (l : Nat)] ∧ n ≤ 8 ∧ l ≤ 8 ∧ ∀ H' t ws, Same H H' → H' t = some (.lst ws) → DVs H' ((allR n l).map eR) ws → Q (.ref t) H'

section
variable {P : Program} {w : World} {K : PySem.W.Frag} {mg : Str → Option Value} {base : Heap} {CP CS : Addr}
/-- the state of the loop of all_roles -/
def AllSt (H : Hp) (p : Addr) (l i : Nat) (H' : Hp) : Prop := ∃ ws, Same H H' ∧ H p = none ∧ H' p = some (.lst ws) ∧ DVs H' ((allR i l).map eR) ws
/-- the state of its comprehension -/
def RowSt (H : Hp) (p : Addr) (l i : Nat) (D : Addr) (k : Nat) (H' : Hp) : Prop := AllSt H p l i H' ∧ H D = none ∧ D ≠ p ∧ ∃ ws, H' D = some (.lst ws) ∧ DVs H' ((rowR i k).map eR) ws
theorem AllSt.row {H H' : Hp} {p D : Addr} {l i : Nat} (h : AllSt H p l i H') (hD : H' D = none) : RowSt H p l i D 0 (upd H' D (.lst [])) := by
  obtain ⟨ws, s, hp, e, d⟩ := h
  have ne : D ≠ p := (ne_of_none e hD).symm
  refine ⟨⟨ws, sNew s hD, hp, by rw [upd_ne ne.symm]; exact e, d.mono (tk_upd hD)⟩, s.free hD, ne, [], upd_same, .nil⟩
theorem RowSt.step {H H' : Hp} {p D q : Addr} {l i k : Nat} (h : RowSt H p l i D k H') (hk : k ≤ 8) (hq : H' q = none) : ∃ acc, upd H' q (.tup [.int (0 + (i : Nat)), .int (0 + (k : Nat))]) D = some (.lst acc) ∧ acc.length < sizeLine ∧ RowSt H p l i D (k + 1) (upd (upd H' q (.tup [.int (0 + (i : Nat)), .int (0 + (k : Nat))])) D (.lst (acc ++ [.ref q]))) := by
  obtain ⟨⟨ws, s, hp, e, d⟩, hD, ne, us, eD, dD⟩ := h
  have nq : D ≠ q := ne_of_none eD hq
  have pq : p ≠ q := ne_of_none e hq
  have t1 := tk_upd (H := H') (o := .tup [.int (0 + (i : Nat)), .int (0 + (k : Nat))]) hq
  have eD' : upd H' q (.tup [.int (0 + (i : Nat)), .int (0 + (k : Nat))]) D = some (.lst us) := by rw [upd_ne nq]; exact eD
  have t2 := t1.trans (tk_put (o := .lst (us ++ [.ref q])) eD')
  have len : us.length = k := by rw [← dD.len, List.length_map, rowR_len]
  refine ⟨us, eD', by rw [len, sizeLine_eq]; omega, ⟨ws, sUp (sNew s hq) hD, hp, ?_, d.mono t2⟩, hD, ne, _, upd_same, ?_⟩
  · rw [upd_ne ne.symm, upd_ne pq]
    exact e
  · rw [rowR_succ, List.map_append]
    refine (dD.mono t2).snoc (mkR ?_)
    rw [upd_ne nq.symm, upd_same, Int.zero_add, Int.zero_add]
theorem RowSt.ext {H H' : Hp} {p D : Addr} {l i : Nat} (hi : i ≤ 8) (hl : l ≤ 8) (h : RowSt H p l i D l H') : ∃ xs zs, H' p = some (.lst xs) ∧ H' D = some (.lst zs) ∧ xs.length + zs.length ≤ sizeLine ∧ AllSt H p l (i + 1) (upd H' p (.lst (xs ++ zs))) := by
  obtain ⟨⟨ws, s, hp, e, d⟩, hD, ne, us, eD, dD⟩ := h
  have l1 : ws.length = i * l := by rw [← d.len, List.length_map, allR_len]
  have l2 : us.length = l := by rw [← dD.len, List.length_map, rowR_len]
  have t := tk_put (o := .lst (ws ++ us)) e
  refine ⟨ws, us, e, eD, ?_, _, sUp s hp, hp, upd_same, ?_⟩
  · have := small8 hi hl
    rw [l1, l2, sizeLine_eq]
    omega
  · rw [allR_succ, List.map_append]
    exact (d.app dD).mono t
theorem sc_all_roles : FnScope ["owners", "labels", "found", "owner", "label"] ["owners", "labels"] (defScope t_all_roles) := ⟨rfl, rfl, rfl, by decide +kernel, rfl, by decide +kernel, by decide +kernel⟩
theorem ok_all_roles (T : Txt K mg CP CS) : C8.Cal P w K mg base 1 "all_roles" sp_all_roles [] := by
  refine cal_of T.d_all_roles sc_all_roles (fun _ _ _ _ _ _ us hl => match us, hl with | [_, _], _ => rfl) (fun vs H Q E h => ?_) (fun f cdv A outer s H vs Q E hr h => ?_)
  · obtain ⟨n, l, rfl, _⟩ := h
    rfl
  · obtain ⟨n, l, rfl, hn, hl, q⟩ := h
    refine ⟨_, (pss_cons (ps_set (i := 2) sc_all_roles.nd rfl (Or.inl rfl) (pe_lst pa_nil))
      (pss_cons (ps_for PassesOwn.never rfl (pi_range1 (by rfl) T.b_range (pa_cons (pv 0) pa_nil)) (pg_name (i := 3) sc_all_roles.nd rfl (by first | exact Or.inl rfl | exact Or.inr rfl)) (pss_one (ps_expr (pe_bm PySem.F.plainAttrs_list PySem.F.slot_list_extend PySem.F.type_list_extend mt_extend (pv 2) (pa_cons (pe_lc rfl sc_all_roles.nd (pi_range1 (by rfl) T.b_range (pa_cons (pv 1) pa_nil)) (blkOk_by (own := [("label", 4)]) (by show blkC ["owners", "labels", "found", "owner", "label"] (defScope t_all_roles) _ _ = true; decide +kernel)) (fun _ _ _ _ _ => (pg_name (i := 4) sc_all_roles.nd rfl (by first | exact Or.inl rfl | exact Or.inr rfl))) (fun _ _ _ _ _ => pts_nil) (fun _ _ _ _ _ => (pe_tup (pa_cons (pv 3) (pa_cons (pv 4) pa_nil))))) pa_nil)))))
      (pss_one (ps_ret (pe_callTy call_tuple_of (by rfl) T.b_tuple bo_tuple (pa_cons (pv 2) pa_nil)))))), ?_⟩
    refine ⟨by decide, fun p hp => ⟨_, rfl, _, rfl, by omega, by omega, for_range (fun i σ H' => ∃ x, σ = [some (.int (n : Nat)), some (.int (l : Nat)), some (.ref p), x, none] ∧ AllSt H p l i H') ?_ ?_ ?_⟩⟩
    · exact ⟨_, rfl, [], same_upd hp, hp, upd_same, .nil⟩
    · rintro i σ H1 hi ⟨x, rfl, st⟩
      obtain ⟨ws, s, _, e, d⟩ := id st
      refine ⟨_, rfl, .inl ⟨rfl, _, .of e⟩, _, rfl, _, rfl, by omega, by omega, fun D hD => lc_range (fun k H2 => RowSt H p l i D k H2) (st.row hD) ?_ ?_⟩
      · rintro k H2 hk rs
        refine ⟨rfl, _, rfl, _, rfl, (by show 2 ≤ sizeLine; decide), fun q' hq' => ?_⟩
        have hk : k < l := hk
        exact rs.step (by omega) hq'
      · rintro H2 rs
        have hi : i < n := hi
        obtain ⟨xs, zs, a1, a2, a3, a4⟩ := RowSt.ext (by omega) hl rs
        exact ⟨_, _, _, _, rfl, rfl, a1, a2, a3, _, rfl, a4⟩
    · rintro σ H1 ⟨x, rfl, ws, s, hp', e, d⟩
      refine ⟨_, rfl, _, _, rfl, .inl ⟨.of e, fun t ht => q _ t ws (sNew s ht) upd_same (d.mono (tk_upd ht))⟩⟩
theorem sc_law_all_roles : FnScope ["_law_owners", "_law_labels", "_law_found", "_law_owner", "_law_label"] ["_law_owners", "_law_labels"] (defScope t_law_all_roles) := ⟨rfl, rfl, rfl, by decide +kernel, rfl, by decide +kernel, by decide +kernel⟩
theorem ok_law_all_roles (T : Txt K mg CP CS) : C8.Cal P w K mg base 1 "_law_all_roles" sp_law_all_roles [] := by
  refine cal_of T.d_law_all_roles sc_law_all_roles (fun _ _ _ _ _ _ us hl => match us, hl with | [_, _], _ => rfl) (fun vs H Q E h => ?_) (fun f cdv A outer s H vs Q E hr h => ?_)
  · obtain ⟨n, l, rfl, _⟩ := h
    rfl
  · obtain ⟨n, l, rfl, hn, hl, q⟩ := h
    refine ⟨_, (pss_cons (ps_set (i := 2) sc_law_all_roles.nd rfl (Or.inl rfl) (pe_lst pa_nil))
      (pss_cons (ps_for PassesOwn.never rfl (pi_range1 (by rfl) T.b_range (pa_cons (pv 0) pa_nil)) (pg_name (i := 3) sc_law_all_roles.nd rfl (by first | exact Or.inl rfl | exact Or.inr rfl)) (pss_one (ps_expr (pe_bm PySem.F.plainAttrs_list PySem.F.slot_list_extend PySem.F.type_list_extend mt_extend (pv 2) (pa_cons (pe_lc rfl sc_law_all_roles.nd (pi_range1 (by rfl) T.b_range (pa_cons (pv 1) pa_nil)) (blkOk_by (own := [("_law_label", 4)]) (by show blkC ["_law_owners", "_law_labels", "_law_found", "_law_owner", "_law_label"] (defScope t_law_all_roles) _ _ = true; decide +kernel)) (fun _ _ _ _ _ => (pg_name (i := 4) sc_law_all_roles.nd rfl (by first | exact Or.inl rfl | exact Or.inr rfl))) (fun _ _ _ _ _ => pts_nil) (fun _ _ _ _ _ => (pe_tup (pa_cons (pv 3) (pa_cons (pv 4) pa_nil))))) pa_nil)))))
      (pss_one (ps_ret (pv 2))))), ?_⟩
    refine ⟨by decide, fun p hp => ⟨_, rfl, _, rfl, by omega, by omega, for_range (fun i σ H' => ∃ x, σ = [some (.int (n : Nat)), some (.int (l : Nat)), some (.ref p), x, none] ∧ AllSt H p l i H') ?_ ?_ ?_⟩⟩
    · exact ⟨_, rfl, [], same_upd hp, hp, upd_same, .nil⟩
    · rintro i σ H1 hi ⟨x, rfl, st⟩
      obtain ⟨ws, s, _, e, d⟩ := id st
      refine ⟨_, rfl, .inl ⟨rfl, _, .of e⟩, _, rfl, _, rfl, by omega, by omega, fun D hD => lc_range (fun k H2 => RowSt H p l i D k H2) (st.row hD) ?_ ?_⟩
      · rintro k H2 hk rs
        refine ⟨rfl, _, rfl, _, rfl, (by show 2 ≤ sizeLine; decide), fun q' hq' => ?_⟩
        have hk : k < l := hk
        exact rs.step (by omega) hq'
      · rintro H2 rs
        have hi : i < n := hi
        obtain ⟨xs, zs, a1, a2, a3, a4⟩ := RowSt.ext (by omega) hl rs
        exact ⟨_, _, _, _, rfl, rfl, a1, a2, a3, _, rfl, a4⟩
    · rintro σ H1 ⟨x, rfl, ws, s, hp', e, d⟩
      exact ⟨_, rfl, q _ p ws s e d⟩
end
end G53


/-! The walk: are_roles, roles_in, check_policy, the two classes. -/
namespace G53
open PySem PySem.Spec PyProof.Rows L2

section
variable {K : PySem.W.Frag} {a b : Addr} {xs ys : List V} {H : Hp}
theorem walk_zipT {n : Nat} (hn : n = min xs.length ys.length) : Walk (RZ.ItzT K a b) n (fun H => SqT K H a xs ∧ SqT K H b ys) (YPair (fun i => xs[i]?) (fun i => ys[i]?)) := by
  subst hn
  refine ⟨fun i _ hi q => ?_, fun _ q => ⟨xs, ys, q.1, q.2, by omega⟩, fun i H v H' _ q y => ?_⟩
  · have h1 : i < xs.length := by omega
    have h2 : i < ys.length := by omega
    exact ⟨xs, ys, xs[i], ys[i], q.1, q.2, by simp [h1], by simp [h2]⟩
  · obtain ⟨T, x, z, h1, h2, h3, h4, h5⟩ := y
    exact ⟨T, x, z, h1, h2, h3, h4 xs q.1, h5 ys q.2⟩
theorem walk_enumT : Walk (ItE K a) xs.length (fun H => SqT K H a xs) (YPair (fun i => some (.int (i : Nat))) (fun i => xs[i]?)) := by
  refine ⟨fun i _ hi q => ⟨xs, xs[i], q, by simp [hi]⟩, fun _ q => ⟨xs, q, rfl⟩, fun i H v H' _ q y => ?_⟩
  obtain ⟨T, x, h1, h2, h3, h4⟩ := y
  exact ⟨T, .int (i : Nat), x, h1, h2, h3, rfl, h4 xs q⟩
theorem cut1 (xs : List V) : cutV xs (some 1) none = xs.drop 1 := by
  unfold cutV
  rw [show (1 : Int) = ((1 : Nat) : Int) from rfl, HT.sIx_nat, HT.sIx_none]
  cases xs with
  | nil => rfl
  | cons x xs =>
    rw [show min 1 (x :: xs).length = 1 by simp]
    exact List.take_of_length_le (by simp)
theorem cut1w (xs : List V) (h : HT.sIx xs.length 0 (some 1) = 0 ∧ HT.sIx xs.length xs.length none = xs.length) : xs = [] := by
  have h1 := h.1
  rw [show (1 : Int) = ((1 : Nat) : Int) from rfl, HT.sIx_nat] at h1
  exact List.length_eq_zero_iff.mp (by omega)
/-- a list of k times True at D, new since H -/
def Trues (H : Hp) (D : Addr) (k : Nat) (H' : Hp) : Prop := L2.Same H H' ∧ H D = none ∧ H' D = some (.lst ((List.replicate k true).map V.bl))
theorem Trues.nil {H H' : Hp} {D : Addr} (s : L2.Same H H') (h : H' D = none) : Trues H D 0 (upd H' D (.lst [])) := ⟨sNew s h, s.free h, upd_same⟩
theorem Trues.step {H H' : Hp} {D : Addr} {k : Nat} (h : Trues H D k H') (hk : k ≤ 100) : ∃ acc, H' D = some (.lst acc) ∧ acc.length < sizeLine ∧ Trues H D (k + 1) (upd H' D (.lst (acc ++ [.bl true]))) := by
  obtain ⟨s, hD, e⟩ := h
  refine ⟨_, e, ?_, sUp s hD, hD, ?_⟩
  · rw [List.length_map, List.length_replicate, sizeLine_eq]
    omega
  · rw [upd_same, List.replicate_succ', List.map_append]
    rfl
theorem trues_all (k : Nat) : (List.replicate k true).all id = true := by
  rw [List.all_eq_true]
  intro x hx
  exact List.eq_of_mem_replicate hx
theorem Trues.skip {H H' H2 : Hp} {D : Addr} {k : Nat} (h : Trues H D k H') (s : L2.Same H' H2) : Trues H D k H2 := ⟨h.1.trans s, h.2.1, s _ _ h.2.2⟩
/-- the i-th of some roles -/
theorem dvsR {rs : List Role} {ws : List V} {i : Nat} {x : V} (d : DVs H (rs.map eR) ws) (h : ws[i]? = some x) : ∃ r, rs[i]? = some r ∧ DV H (eR r) x := by
  obtain ⟨k, hk, dk⟩ := d.get h
  rw [List.getElem?_map] at hk
  obtain ⟨r, hr, rfl⟩ := Option.map_eq_some_iff.mp hk
  exact ⟨r, hr, dk⟩
theorem dvsG {gs : List Grant} {ws : List V} {i : Nat} {x : V} (d : DVs H (gs.map eG) ws) (h : ws[i]? = some x) : ∃ g, gs[i]? = some g ∧ DV H (eG g) x := by
  obtain ⟨k, hk, dk⟩ := d.get h
  rw [List.getElem?_map] at hk
  obtain ⟨r, hr, rfl⟩ := Option.map_eq_some_iff.mp hk
  exact ⟨r, hr, dk⟩
end
abbrev AllEnd (K : PySem.W.Frag) (Q : VK) : VK := fun v H3 => ∃ (a : Addr) (bs : List Bool), [v] = [V.ref a] ∧ SqL K H3 a (bs.map V.bl) ∧ Q (.bl (bs.all id)) H3
theorem pw_at {α : Type} {R : α → α → Prop} {l : List α} {i j : Nat} {x y : α} (h : l.Pairwise R) (hi : l[i]? = some x) (hj : l[j]? = some y) (lt : i < j) : R x y := by
  obtain ⟨h1, rfl⟩ := List.getElem?_eq_some_iff.mp hi
  obtain ⟨h2, rfl⟩ := List.getElem?_eq_some_iff.mp hj
  exact List.pairwise_iff_getElem.mp h i j h1 h2 lt
theorem OkB.sm {n l : Nat} (hn : n ≤ 8) (hl : l ≤ 8) : ∀ {b : Body}, OkB n l b → SmB b
  | .own o, h => Nat.lt_of_lt_of_le h hn
  | .rol r, h => OkR.sm hn hl h
  | .bth r s, h => ⟨OkR.sm hn hl h.1, OkR.sm hn hl h.2.1⟩
theorem OkG.sm {n l : Nat} (hn : n ≤ 8) (hl : l ≤ 8) {g : Grant} (h : OkG n l g) : SmG g := ⟨OkR.sm hn hl h.1, OkB.sm hn hl h.2⟩
/-- the roles of these owners and labels, ascending -/
def Roles (n l : Nat) (rs : List Role) : Prop := (∀ r ∈ rs, OkR n l r) ∧ rs.Pairwise (fun r s => rR r < rR s)
def Grants (n l : Nat) (gs : List Grant) : Prop := (∀ g ∈ gs, OkG n l g) ∧ gs.Pairwise (fun g h => rG g < rG h)
theorem nodup_bound {f : Role → Nat} {m : Nat} : ∀ {rs : List Role}, rs.Pairwise (fun r s => f r < f s) → (∀ r ∈ rs, f r < m) → ∀ k, (∀ r ∈ rs, k ≤ f r) → rs.length + k ≤ m ∨ rs = [] := by
  intro rs
  induction rs with
  | nil => exact fun _ _ _ _ => .inr rfl
  | cons r rs ih =>
    intro h1 h2 k h3
    obtain ⟨p1, p2⟩ := List.pairwise_cons.mp h1
    have b := h2 r List.mem_cons_self
    have kb := h3 r List.mem_cons_self
    rcases ih p2 (fun s hs => h2 s (List.mem_cons_of_mem _ hs)) (k + 1) (fun s hs => Nat.lt_of_le_of_lt kb (p1 s hs)) with q | q
    · exact .inl (by rw [List.length_cons]; omega)
    · exact .inl (by rw [q, List.length_cons, List.length_nil]; omega)
theorem Roles.few {n l : Nat} {rs : List Role} (hn : n ≤ 8) (hl : l ≤ 8) (h : Roles n l rs) : rs.length ≤ 64 := by
  rcases nodup_bound (m := 64) h.2 (fun r hr => rR_lt ((h.1 r hr).sm hn hl)) 0 (fun _ _ => Nat.zero_le _) with q | q
  · exact q
  · rw [q]
    decide
def sp_are_roles : Sp := fun vs H Q _ => ∃ (n l : Nat) (rs : List Role) (a : Addr) (ws : List V), vs = [.int (n : Nat), .int (l : Nat), .ref a] ∧ H a = some (.tup ws) ∧ DVs H (rs.map eR) ws ∧ n ≤ 8 ∧ l ≤ 8 ∧ Roles n l rs ∧ ∀ H', L2.Same H H' → Q (.bl true) H'
def sp_roles_in : Sp := fun vs H Q _ => ∃ (g : Grant) (v : V), vs = [v] ∧ DV H (eG g) v ∧ ∀ H' p ws, L2.Same H H' → H' p = some (.lst ws) → DVs H' ((rolesIn g).map eR) ws → Q (.ref p) H'
def sp_check_policy : Sp := fun vs H Q _ => ∃ (n l : Nat) (gs : List Grant) (a : Addr) (ws : List V), vs = [.int (n : Nat), .int (l : Nat), .ref a] ∧ H a = some (.tup ws) ∧ DVs H (gs.map eG) ws ∧ 1 ≤ n ∧ n ≤ 7 ∧ 1 ≤ l ∧ l ≤ 4 ∧ gs.length ≤ 100 ∧ Grants n l gs ∧ ∀ H', L2.Same H H' → Q .non H'
section
variable {P : Program} {w : World} {K : PySem.W.Frag} {mg : Str → Option Value} {base : Heap} {CP CS : Addr}
theorem sc_are_roles : FnScope ["owners", "labels", "value", "one", "other"] ["owners", "labels", "value"] (defScope t_are_roles) := ⟨rfl, rfl, rfl, by decide +kernel, rfl, by decide +kernel, by decide +kernel⟩
theorem ok_are_roles (T : Txt K mg CP CS) : C8.Cal P w K mg base 3 "are_roles" sp_are_roles [] := by
  have c_is_role := ok_is_role (P := P) (w := w) (base := base) T
  refine cal_of T.d_are_roles sc_are_roles (fun _ _ _ _ _ _ us hl => match us, hl with | [_, _, _], _ => rfl) (fun vs H Q E h => ?_) (fun f cdv A outer s H vs Q E hr h => ?_)
  · obtain ⟨n, l, rs, a, ws, rfl, _⟩ := h
    rfl
  · obtain ⟨n, l, rs, a, ws, rfl, e, d, hn, hl, rr, q⟩ := h
    have few := rr.few hn hl
    have len : ws.length = rs.length := by rw [← d.len, List.length_map]
    refine ⟨_, (pss_cons (ps_if (PW.pt (pw_or (pt_not (pt_val (pe_callB call_isi (by rfl) T.b_isinstance bo_isinstance (pa_cons (pv 2) (pa_cons (pe_bltn (v := .ty "tuple") (by rfl) T.b_tuple bo_tuple rfl) pa_nil))))) (pw_or1 (pt_not (pt_val (pe_callB (cr_all rfl) (by rfl) T.b_all bo_all (pa_cons (pe_lc rfl sc_are_roles.nd (pi_tup (pv 2)) (blkOk_by (own := [("one", 3)]) (by show blkC ["owners", "labels", "value", "one", "other"] (defScope t_are_roles) _ _ = true; decide +kernel)) (fun _ _ _ _ _ => (pg_name (i := 3) sc_are_roles.nd rfl (by first | exact Or.inl rfl | exact Or.inr rfl))) (fun _ _ _ _ _ => pts_nil) (fun _ _ _ _ _ => (C8.pe_c c_is_role hr (by decide) (by rfl) (pa_cons (pv 0) (pa_cons (pv 1) (pa_cons (pv 3) pa_nil)))))) pa_nil))))))) (pss_one (ps_ret pe_bl)) pss_nil)
      (pss_one (ps_ret (pe_callB (cr_all rfl) (by rfl) T.b_all bo_all (pa_cons (pe_lc rfl sc_are_roles.nd (RZ.pi_zipA (by rfl) T.b_zip (pa_cons (pv 2) (pa_cons (pe_slice sl_tupA (pv 2) (po_some pe_int) po_none) pa_nil))) (blkOk_by (own := [("one", 3), ("other", 4)]) (by show blkC ["owners", "labels", "value", "one", "other"] (defScope t_are_roles) _ _ = true; decide +kernel)) (fun _ _ _ _ _ => (pg_two (K := K) (i := 3) (j := 4) rfl rfl sc_are_roles.nd rfl rfl (by first | exact Or.inl rfl | exact Or.inr rfl) (by first | exact Or.inl rfl | exact Or.inr rfl) (by first | exact Or.inl rfl | exact Or.inr rfl) (by first | exact Or.inl rfl | exact Or.inr rfl))) (fun _ _ _ _ _ => pts_nil) (fun _ _ _ _ _ => (pe_cmpR (op_ltN hr.units) (pv 3) (pv 4) (nomark _)))) pa_nil))))), ?_⟩
    refine ⟨_, rfl, _, _, _, _, true, rfl, .ty _, .base (.tup e), kit_ty (by decide +kernel), _, rfl, iteF ⟨_, rfl, _, rfl, ⟨_, .of e⟩, fun D hD => lc_tup (xs := ws) (fun k H' => Trues H D k H') (Trues.nil (Same.refl H) hD) (fun i H' _ t => .of (t.1 _ _ e)) ?_ ?_⟩⟩
    · intro i x H' hx t
      obtain ⟨r, hr, dr⟩ := dvsR d hx
      have hi := (List.getElem?_eq_some_iff.mp hr).1
      exact ⟨rfl, _, rfl, _, rfl, _, rfl, _, _, _, _, rfl, dr.mono (.of_same t.1), rr.1 r (List.mem_of_getElem? hr), t.step (by omega)⟩
    · rintro H1 ⟨s1, _, e1⟩
      refine ⟨_, _, rfl, .of e1, _, rfl, ?_⟩
      rw [trues_all]
      have ea := s1 _ _ e
      refine ⟨_, rfl, _, rfl, _, rfl, _, _, rfl, .of ea, ?_⟩
      have go : ∀ (H2 : Hp) (b : Addr) (R : VK), L2.Same H H2 → H2 b = some (.tup (ws.drop 1)) → (∀ H3 D k, Trues H D k H3 → R (.ref D) H3) → ∀ D, H2 D = none → _ := fun H2 b R s2 eb k D hD =>
        lc_it (walk_zipT (K := K) (a := a) (b := b) (xs := ws) (ys := ws.drop 1) rfl) (g := gTup K 2 (gCons (gName 3) (gCons (gName 4) gNil))) (tt := tYes) (te := tOp (rOrd false) (tVar 3) (tVar 4)) (vs := [3, 4]) (σ := [some (V.int (n : Nat)), some (V.int (l : Nat)), some (V.ref a), none, none]) (H1 := H2) (D := D) (Qd := fun H3 => R (.ref D) H3)
          (fun k H' => Trues H D k H' ∧ L2.Same H2 H') ⟨Trues.nil s2 hD, same_upd hD⟩ (fun i H' _ t => ⟨.of (t.2 _ _ (s2 _ _ e)), .of (t.2 _ _ eb)⟩) (by
            rintro i v H' H'' hi ⟨t, s3⟩ ⟨T, x, y, rfl, hT, rfl, hx, hy⟩
            obtain ⟨r, hr, dr⟩ := dvsR d hx
            have hy2 : ws[i + 1]? = some y := by
              have z : (ws.drop 1)[i]? = some y := hy
              rw [List.getElem?_drop, Nat.add_comm] at z
              exact z
            obtain ⟨r2, hr2, dr2⟩ := dvsR d hy2
            have hlt := (List.getElem?_eq_some_iff.mp hr).1
            have lt : rR r < rR r2 := pw_at (R := fun r s => rR r < rR s) rr.2 hr hr2 (Nat.lt_succ_self i)
            have t2 := t.skip (same_upd (o := .tup [x, y]) hT)
            refine ⟨_, _, rfl, .of upd_same, rfl, _, _, rfl, _, _, rfl, rfl, rfl, _, rfl, _, rfl, _, _, dr.mono (.of_same t2.1), dr2.mono (.of_same t2.1), dep_eR _, cmp_eR _ _, ?_⟩
            rw [ord_eR ((rr.1 r (List.mem_of_getElem? hr)).sm hn hl) ((rr.1 r2 (List.mem_of_getElem? hr2)).sm hn hl)]
            rw [show (if false = true then decide (rR r ≤ rR r2) else decide (rR r < rR r2)) = true from decide_eq_true lt]
            obtain ⟨acc, c1, c2, c3⟩ := t2.step (by omega)
            have hD0 : H2 D = none := hD
            exact ⟨acc, c1, c2, c3, sUp (sNew s3 hT) hD0⟩) (fun H3 t => k H3 D _ t.1)
      have fin : ∀ H3 D k, Trues H D k H3 → AllEnd K Q (.ref D) H3 := fun H3 D k t => ⟨D, _, rfl, .of t.2.2, by rw [trues_all]; exact q _ t.1⟩
      refine ⟨fun hw => ?_, fun _ p hp => ?_⟩
      · have e0 := cut1w _ hw
        refine ⟨a, a, ws, ws.drop 1, rfl, .inr ⟨.of ea, .of (by rw [e0] at ea ⊢; exact ea), fun D hD => go H1 a (AllEnd K Q) s1 (by rw [e0] at ea ⊢; exact ea) fin D hD⟩⟩
      · have s3 := sNew (o := .tup (cutV ws (some 1) none)) s1 hp
        have e3 : upd H1 p (.tup (cutV ws (some 1) none)) p = some (.tup (ws.drop 1)) := by rw [upd_same, cut1]
        exact ⟨a, p, ws, ws.drop 1, rfl, .inr ⟨.of (s3 _ _ e), .of e3, fun D hD => go _ p (AllEnd K Q) s3 e3 fin D hD⟩⟩
theorem sc_roles_in : FnScope ["grant", "role", "body"] ["grant"] (defScope t_roles_in) := ⟨rfl, rfl, rfl, by decide +kernel, rfl, by decide +kernel, by decide +kernel⟩
theorem ok_roles_in (T : Txt K mg CP CS) : C8.Cal P w K mg base 1 "roles_in" sp_roles_in [] := by
  refine cal_of T.d_roles_in sc_roles_in (fun _ _ _ _ _ _ us hl => match us, hl with | [_], _ => rfl) (fun vs H Q E h => ?_) (fun f cdv A outer s H vs Q E hr h => ?_)
  · obtain ⟨g, v, rfl, _⟩ := h
    rfl
  · obtain ⟨⟨r, b⟩, v, rfl, d, q⟩ := h
    obtain ⟨a, x, y, rfl, e, dx, dy⟩ := dG d
    refine ⟨_, (pss_cons (ps_asg (pv 0) (pg_two (K := K) (i := 1) (j := 2) rfl rfl sc_roles_in.nd rfl rfl (by first | exact Or.inl rfl | exact Or.inr rfl) (by first | exact Or.inl rfl | exact Or.inr rfl) (by first | exact Or.inl rfl | exact Or.inr rfl) (by first | exact Or.inl rfl | exact Or.inr rfl)))
      (pss_cons (ps_if (pt_cmpR op_eq (pe_ix ix_tup (pv 2) pe_int (fun _ _ => rfl)) pe_str (nomark _)) (pss_one (ps_ret (pe_lst (pa_cons (pv 1) pa_nil)))) pss_nil)
      (pss_cons (ps_if (pt_cmpR op_eq (pe_ix ix_tup (pv 2) pe_int (fun _ _ => rfl)) pe_str (nomark _)) (pss_one (ps_ret (pe_lst (pa_cons (pv 1) (pa_cons (pe_ix ix_tup (pv 2) pe_int (fun _ _ => rfl)) (pa_cons (pe_ix ix_tup (pv 2) pe_int (fun _ _ => rfl)) pa_nil)))))) pss_nil)
      (pss_one (ps_ret (pe_lst (pa_cons (pv 1) (pa_cons (pe_ix ix_tup (pv 2) pe_int (fun _ _ => rfl)) pa_nil)))))))), ?_⟩
    refine ⟨_, rfl, _, _, rfl, .of e, rfl, _, _, rfl, _, _, rfl, rfl, ?_⟩
    cases b with
    | own o =>
      obtain ⟨c, rfl, ec⟩ := dB1 dy
      refine ⟨_, rfl, _, _, _, _, rfl, rfl, .of ec, rfl, rfl, _, rfl, ifT (by decide +kernel) ⟨_, rfl, (by show 1 ≤ sizeLine; decide), fun p hp => ?_⟩⟩
      exact q _ p _ (same_upd hp) upd_same (.cons (dx.mono (tk_upd hp)) .nil)
    | rol s' =>
      obtain ⟨c, z, rfl, ec, dz⟩ := dB2 dy
      refine ⟨_, rfl, _, _, _, _, rfl, rfl, .of ec, rfl, rfl, _, rfl, ifF (by decide +kernel) ?_⟩
      refine ⟨_, rfl, _, _, _, _, rfl, rfl, .of ec, rfl, rfl, _, rfl, ifF (by decide +kernel) ?_⟩
      refine ⟨_, rfl, _, rfl, _, _, _, _, rfl, rfl, .of ec, rfl, (by show 2 ≤ sizeLine; decide), fun p hp => ?_⟩
      exact q _ p _ (same_upd hp) upd_same (.cons (dx.mono (tk_upd hp)) (.cons (dz.mono (tk_upd hp)) .nil))
    | bth s' t =>
      obtain ⟨c, z, z2, rfl, ec, dz, dz2⟩ := dB3 dy
      refine ⟨_, rfl, _, _, _, _, rfl, rfl, .of ec, rfl, rfl, _, rfl, ifF (by decide +kernel) ?_⟩
      refine ⟨_, rfl, _, _, _, _, rfl, rfl, .of ec, rfl, rfl, _, rfl, ifT (by decide +kernel) ?_⟩
      refine ⟨_, rfl, _, rfl, _, _, _, _, rfl, rfl, .of ec, rfl, _, rfl, _, _, _, _, rfl, rfl, .of ec, rfl, (by show 3 ≤ sizeLine; decide), fun p hp => ?_⟩
      exact q _ p _ (same_upd hp) upd_same (.cons (dx.mono (tk_upd hp)) (.cons (dz.mono (tk_upd hp)) (.cons (dz2.mono (tk_upd hp)) .nil)))
theorem sc_check_policy : FnScope ["owners", "labels", "grants", "number", "grant", "word"] ["owners", "labels", "grants"] (defScope t_check_policy) := ⟨rfl, rfl, rfl, by decide +kernel, rfl, by decide +kernel, by decide +kernel⟩
theorem ok_check_policy (T : Txt K mg CP CS) : C8.Cal P w K mg base 5 "check_policy" sp_check_policy [] := by
  have c_is_integer := ok_is_integer (P := P) (w := w) (base := base) T
  have c_grant_word := ok_grant_word (P := P) (w := w) (base := base) T
  refine cal_of T.d_check_policy sc_check_policy (fun _ _ _ _ _ _ us hl => match us, hl with | [_, _, _], _ => rfl) (fun vs H Q E h => ?_) (fun f cdv A outer s H vs Q E hr h => ?_)
  · obtain ⟨n, l, gs, a, ws, rfl, _⟩ := h
    rfl
  · obtain ⟨n, l, gs, a, ws, rfl, e, d, n1, n7, l1, l4, few, ok, q⟩ := h
    have len : ws.length = gs.length := by rw [← d.len, List.length_map]
    refine ⟨_, (pss_cons (ps_if (pt_not (pt_val (C8.pe_c c_is_integer hr (by decide) (by rfl) (pa_cons (pv 0) (pa_cons pe_int (pa_cons (C8.pe_gc (by rfl) T.k_MAX_OWNERS) pa_nil)))))) pss_never pss_nil)
      (pss_cons (ps_if (pt_not (pt_val (C8.pe_c c_is_integer hr (by decide) (by rfl) (pa_cons (pv 1) (pa_cons pe_int (pa_cons (C8.pe_gc (by rfl) T.k_MAX_LABELS) pa_nil)))))) pss_never pss_nil)
      (pss_cons (ps_if (PW.pt (pw_or (pt_not (pt_val (pe_callB call_isi (by rfl) T.b_isinstance bo_isinstance (pa_cons (pv 2) (pa_cons (pe_bltn (v := .ty "tuple") (by rfl) T.b_tuple bo_tuple rfl) pa_nil))))) (pw_or1 (pt_cmpR op_gt (pe_callB call_len_seq (by rfl) T.b_len bo_len (pa_cons (pv 2) pa_nil)) (C8.pe_gc (by rfl) T.k_MAX_GRANTS) (nomark _))))) pss_never pss_nil)
      (pss_one (ps_for PassesOwn.never rfl (pi_enumT (by rfl) T.b_enumerate (pa_cons (pv 2) pa_nil)) (pg_two (K := K) (i := 3) (j := 4) rfl rfl sc_check_policy.nd rfl rfl (by first | exact Or.inl rfl | exact Or.inr rfl) (by first | exact Or.inl rfl | exact Or.inr rfl) (by first | exact Or.inl rfl | exact Or.inr rfl) (by first | exact Or.inl rfl | exact Or.inr rfl)) (pss_cons (ps_set (i := 5) sc_check_policy.nd rfl (Or.inl rfl) (C8.pe_c c_grant_word hr (by decide) (by rfl) (pa_cons (pv 0) (pa_cons (pv 1) (pa_cons (pv 4) pa_nil)))))
      (pss_cons (ps_if (PW.pt (pw_and (pt_cmp (pc_isN (pv 5))) (pw_and (pt_cmpR op_gt (pv 3) pe_int (nomark _)) (pw_and1 (pt_cmpR (op_leN hr.units) (pv 4) (pe_ix ix_tup (pv 2) (pe_op op_sub (pv 3) pe_int) (fun _ _ => rfl)) (nomark _)))))) (pss_one (ps_set (i := 5) sc_check_policy.nd rfl (Or.inl rfl) pe_str)) pss_nil)
      (pss_one (ps_if (pt_cmp (pc_notN (pv 5))) pss_never pss_nil))))))))), ?_⟩
    refine ⟨_, rfl, _, _, _, rfl, _, rfl, ?_⟩
    rw [show (decide ((1 : Int) ≤ ((n : Nat) : Int)) && decide (((n : Nat) : Int) ≤ 7)) = true by simp; omega]
    refine ⟨_, rfl, _, _, _, rfl, _, rfl, ?_⟩
    rw [show (decide ((1 : Int) ≤ ((l : Nat) : Int)) && decide (((l : Nat) : Int) ≤ 4)) = true by simp; omega]
    refine ⟨_, rfl, _, _, _, _, true, rfl, .ty _, .base (.tup e), kit_ty (by decide +kernel), _, rfl, iteF ⟨_, rfl, _, _, rfl, .inr (.of e), _, _, rfl, rfl, _, rfl, ifF (decide_eq_false (by omega)) ?_⟩⟩
    refine ⟨_, rfl, _, _, rfl, .of e, for_it walk_enumT (fun i σ H' => ∃ x y z, σ = [some (.int (n : Nat)), some (.int (l : Nat)), some (.ref a), x, y, z] ∧ L2.Same H H') ⟨_, _, _, rfl, Same.refl H⟩ (fun i σ H' _ ⟨_, _, _, _, s⟩ => .of (s _ _ e)) ?_ ?_⟩
    · rintro i v σ H1 H2 hi ⟨x, y, z, rfl, s1⟩ ⟨T, nu, gr, rfl, hT, rfl, hnu, hgr⟩
      have hnu : some (V.int (i : Nat)) = some nu := hnu
      cases hnu
      have hgr : ws[i]? = some gr := hgr
      obtain ⟨g, hg, dg⟩ := dvsG d hgr
      have s2 := sNew (o := .tup [V.int (i : Nat), gr]) s1 hT
      have okg := ok.1 g (List.mem_of_getElem? hg)
      refine ⟨_, _, rfl, .of upd_same, rfl, _, _, rfl, _, _, rfl, rfl, ?_⟩
      refine ⟨_, rfl, _, rfl, _, rfl, _, _, _, _, rfl, dg.mono (.of_same s2), by omega, by omega, okg, fun H3 s3 => ?_⟩
      have s4 := s2.trans s3
      refine ⟨_, rfl, _, rfl, iteT ⟨_, rfl, _, _, rfl, rfl, _, rfl, ?_⟩⟩
      have fin : ∀ z, ∃ x y z', ([some (.int (n : Nat)), some (.int (l : Nat)), some (.ref a), some (.int (i : Nat)), some gr, z] : L2.St) = [some (.int (n : Nat)), some (.int (l : Nat)), some (.ref a), x, y, z'] ∧ L2.Same H H3 := fun z => ⟨_, _, _, rfl, s4⟩
      refine ite2 (fun pos => ?_) (fun _ => ?_)
      · have pos := of_decide_eq_true pos
        have i1 : 0 < i := by omega
        have hlt : i - 1 < ws.length := by omega
        have hp : ws[i - 1]? = some ws[i - 1] := List.getElem?_eq_getElem hlt
        obtain ⟨g0, hg0, dg0⟩ := dvsG d hp
        have lt : rG g0 < rG g := pw_at (R := fun g h => rG g < rG h) ok.2 hg0 hg (by omega)
        have okg0 := ok.1 g0 (List.mem_of_getElem? hg0)
        refine ⟨_, rfl, _, rfl, _, rfl, _, _, rfl, rfl, _, _, _, _, rfl, rfl, .of (s4 _ _ e), ?_, _, _, dg.mono (.of_same s4), dg0.mono (.of_same s4), dep_eG _, cmp_eG _ _, _, rfl, ?_⟩
        · rw [show ((i : Nat) : Int) - 1 = ((i - 1 : Nat) : Int) by omega]
          exact atI_nat hp
        · rw [ord_eG true (okg.sm (by omega) (by omega)) (okg0.sm (by omega) (by omega)), rc_f lt]
          exact ⟨_, rfl, _, rfl, fin _⟩
      · exact ⟨_, rfl, _, rfl, fin _⟩
    · rintro σ H1 ⟨x, y, z, rfl, s1⟩
      exact q _ s1
end
end G53


/-! The walk: the two classes. -/
namespace G53
open PySem PySem.Spec PyProof.Rows L2

/-- a policy stands at p -/
def PolD (CP : Addr) (H : Hp) (p : Addr) (n l : Nat) (gs : List Grant) : Prop := ∃ dx t g ws, H p = some (.ins CP dx [("parts", .ref t)]) ∧ H t = some (.tup [.int (n : Nat), .int (l : Nat), .ref g]) ∧ H g = some (.tup ws) ∧ DVs H (gs.map eG) ws
theorem PolD.same {CP : Addr} {H H' : Hp} {p : Addr} {n l : Nat} {gs : List Grant} (h : PolD CP H p n l gs) (s : L2.Same H H') : PolD CP H' p n l gs :=
  let ⟨dx, t, g, ws, h1, h2, h3, h4⟩ := h
  ⟨dx, t, g, ws, s _ _ h1, s _ _ h2, s _ _ h3, h4.mono (.of_same s)⟩
/-- a setting stands at a -/
def StgD (CP CS : Addr) (H : Hp) (a : Addr) (S : Stg) : Prop := ∃ dx t p f k fs ks, H a = some (.ins CS dx [("parts", .ref t)]) ∧ H t = some (.tup [.ref p, .ref f, .ref k]) ∧ PolD CP H p S.n S.l S.gs ∧ H f = some (.tup fs) ∧ DVs H (S.fx.map eR) fs ∧ H k = some (.tup ks) ∧ DVs H (S.kp.map eR) ks
theorem StgD.same {CP CS : Addr} {H H' : Hp} {a : Addr} {S : Stg} (h : StgD CP CS H a S) (s : L2.Same H H') : StgD CP CS H' a S :=
  let ⟨dx, t, p, f, k, fs, ks, h1, h2, h3, h4, h5, h6, h7⟩ := h
  ⟨dx, t, p, f, k, fs, ks, s _ _ h1, s _ _ h2, h3.same s, s _ _ h4, h5.mono (.of_same s), s _ _ h6, h7.mono (.of_same s)⟩
/-- what the settings of the law keep -/
structure OkS (S : Stg) : Prop where
  n1 : 1 ≤ S.n
  n3 : S.n ≤ 3
  l1 : 1 ≤ S.l
  l2 : S.l ≤ 2
  few : S.gs.length ≤ 20
  gs : Grants S.n S.l S.gs
  fx : Roles S.n S.l S.fx
  kp : Roles S.n S.l S.kp
theorem OkS.n8 {S : Stg} (h : OkS S) : S.n ≤ 8 := by have := h.n3; omega
theorem OkS.l8 {S : Stg} (h : OkS S) : S.l ≤ 8 := by have := h.l2; omega

def sp_P_init (CP : Addr) : Sp := fun vs H Q _ => ∃ (H0 : Hp) (x dx : Addr) (n l : Nat) (gs : List Grant) (g : Addr) (ws : List V), vs = [.ref x, .int (n : Nat), .int (l : Nat), .ref g] ∧ H0 x = none ∧ H0 dx = none ∧ dx ≠ x ∧ H = upd (upd H0 dx (.own x)) x (.ins CP dx []) ∧
  H0 g = some (.tup ws) ∧ DVs H0 (gs.map eG) ws ∧ 1 ≤ n ∧ n ≤ 7 ∧ 1 ≤ l ∧ l ≤ 4 ∧ gs.length ≤ 100 ∧ Grants n l gs ∧ ∀ H', L2.Same H0 H' → PolD CP H' x n l gs → Q .non H'
def sp_S_init (CP CS : Addr) : Sp := fun vs H Q _ => ∃ (H0 : Hp) (x dx : Addr) (S : Stg) (p f k : Addr) (fs ks : List V), vs = [.ref x, .ref p, .ref f, .ref k] ∧ H0 x = none ∧ H0 dx = none ∧ dx ≠ x ∧ H = upd (upd H0 dx (.own x)) x (.ins CS dx []) ∧
  PolD CP H0 p S.n S.l S.gs ∧ H0 f = some (.tup fs) ∧ DVs H0 (S.fx.map eR) fs ∧ H0 k = some (.tup ks) ∧ DVs H0 (S.kp.map eR) ks ∧ OkS S ∧ ∀ H', L2.Same H0 H' → StgD CP CS H' x S → Q .non H'
def sp_P_owners (CP : Addr) : Sp := fun vs H Q _ => ∃ p n l gs, vs = [.ref p] ∧ PolD CP H p n l gs ∧ Q (.int (n : Nat)) H
def sp_P_labels (CP : Addr) : Sp := fun vs H Q _ => ∃ p n l gs, vs = [.ref p] ∧ PolD CP H p n l gs ∧ Q (.int (l : Nat)) H
def sp_P_grants (CP : Addr) : Sp := fun vs H Q _ => ∃ p n l gs, vs = [.ref p] ∧ PolD CP H p n l gs ∧ ∀ g ws, H g = some (.tup ws) → DVs H (gs.map eG) ws → Q (.ref g) H
def sp_P_len (CP : Addr) : Sp := fun vs H Q _ => ∃ p n l gs, vs = [.ref p] ∧ PolD CP H p n l gs ∧ Q (.int (gs.length : Nat)) H
def sp_S_policy (CP CS : Addr) : Sp := fun vs H Q _ => ∃ a S, vs = [.ref a] ∧ StgD CP CS H a S ∧ ∀ p, PolD CP H p S.n S.l S.gs → Q (.ref p) H
def sp_S_fixed (CP CS : Addr) : Sp := fun vs H Q _ => ∃ a S, vs = [.ref a] ∧ StgD CP CS H a S ∧ ∀ f fs, H f = some (.tup fs) → DVs H (S.fx.map eR) fs → Q (.ref f) H
def sp_S_kept (CP CS : Addr) : Sp := fun vs H Q _ => ∃ a S, vs = [.ref a] ∧ StgD CP CS H a S ∧ ∀ f fs, H f = some (.tup fs) → DVs H (S.kp.map eR) fs → Q (.ref f) H
theorem parts_at (v : V) : ([(("parts" : Str), v)] : List (Str × V)).lookup ("parts" : Str) = some v := by simp [List.lookup_cons]
theorem same_mk {H0 : Hp} {x dx C : Addr} (hx : H0 x = none) (hd : H0 dx = none) : L2.Same H0 (upd (upd H0 dx (.own x)) x (.ins C dx [])) := fun b o e => by
  rw [upd_ne (ne_of_none e hx), upd_ne (ne_of_none e hd)]
  exact e
section
variable {CP CS a p : Addr} {H : Hp} {S : Stg} {n l : Nat} {gs : List Grant} {Q : VK} {E : XK}
theorem rd_policy (h : StgD CP CS H a S) (k : ∀ p, PolD CP H p S.n S.l S.gs → Q (.ref p) H) : ∃ b dx fs, V.ref a = .ref b ∧ H b = some (.ins CS dx fs) ∧ sp_S_policy CP CS [.ref b] H Q E :=
  let ⟨dx, _, _, _, _, _, _, h1, _⟩ := h
  ⟨a, dx, _, rfl, h1, a, S, rfl, h, k⟩
theorem rd_fixed (h : StgD CP CS H a S) (k : ∀ f fs, H f = some (.tup fs) → DVs H (S.fx.map eR) fs → Q (.ref f) H) : ∃ b dx fs, V.ref a = .ref b ∧ H b = some (.ins CS dx fs) ∧ sp_S_fixed CP CS [.ref b] H Q E :=
  let ⟨dx, _, _, _, _, _, _, h1, _⟩ := h
  ⟨a, dx, _, rfl, h1, a, S, rfl, h, k⟩
theorem rd_kept (h : StgD CP CS H a S) (k : ∀ f fs, H f = some (.tup fs) → DVs H (S.kp.map eR) fs → Q (.ref f) H) : ∃ b dx fs, V.ref a = .ref b ∧ H b = some (.ins CS dx fs) ∧ sp_S_kept CP CS [.ref b] H Q E :=
  let ⟨dx, _, _, _, _, _, _, h1, _⟩ := h
  ⟨a, dx, _, rfl, h1, a, S, rfl, h, k⟩
theorem rd_grants (h : PolD CP H p n l gs) (k : ∀ g ws, H g = some (.tup ws) → DVs H (gs.map eG) ws → Q (.ref g) H) : ∃ b dx fs, V.ref p = .ref b ∧ H b = some (.ins CP dx fs) ∧ sp_P_grants CP [.ref b] H Q E :=
  let ⟨dx, _, _, _, h1, _⟩ := h
  ⟨p, dx, _, rfl, h1, p, n, l, gs, rfl, h, k⟩
theorem rd_owners (h : PolD CP H p n l gs) (k : Q (.int (n : Nat)) H) : ∃ b dx fs, V.ref p = .ref b ∧ H b = some (.ins CP dx fs) ∧ sp_P_owners CP [.ref b] H Q E :=
  let ⟨dx, _, _, _, h1, _⟩ := h
  ⟨p, dx, _, rfl, h1, p, n, l, gs, rfl, h, k⟩
theorem rd_labels (h : PolD CP H p n l gs) (k : Q (.int (l : Nat)) H) : ∃ b dx fs, V.ref p = .ref b ∧ H b = some (.ins CP dx fs) ∧ sp_P_labels CP [.ref b] H Q E :=
  let ⟨dx, _, _, _, h1, _⟩ := h
  ⟨p, dx, _, rfl, h1, p, n, l, gs, rfl, h, k⟩
end
section
variable {P : Program} {w : World} {K : PySem.W.Frag} {mg : Str → Option Value} {base : Heap} {CP CS : Addr}
theorem sc_P_owners : FnScope ["self"] ["self"] (defScope t_P_owners) := ⟨rfl, rfl, rfl, by decide +kernel, rfl, by decide +kernel, by decide +kernel⟩
theorem ok_P_owners (T : Txt K mg CP CS) : Prp P w K mg base 1 CP "owners" (sp_P_owners CP) := by
  refine prp_of T.cP.cls T.p_P_owners sc_P_owners (fun _ _ _ _ _ _ us hl => match us, hl with | [_], _ => rfl) (fun vs H Q E h => ?_) (fun f cdv A outer s H vs Q E hr h => ?_)
  · obtain ⟨p, n, l, gs, rfl, _⟩ := h
    rfl
  · obtain ⟨p, n, l, gs, rfl, ⟨dx, t, g, ws, h1, h2, h3, h4⟩, q⟩ := h
    refine ⟨_, (pss_one (ps_ret (pe_ix ix_tup (pe_fld (pv 0) rfl) pe_int (fun _ _ => rfl)))), ?_⟩
    exact ⟨_, rfl, p, CP, dx, _, _, rfl, h1, T.cP.cls, T.cP.parts, parts_at _, _, _, _, _, rfl, rfl, .of h2, rfl, q⟩
theorem sc_P_labels : FnScope ["self"] ["self"] (defScope t_P_labels) := ⟨rfl, rfl, rfl, by decide +kernel, rfl, by decide +kernel, by decide +kernel⟩
theorem ok_P_labels (T : Txt K mg CP CS) : Prp P w K mg base 1 CP "labels" (sp_P_labels CP) := by
  refine prp_of T.cP.cls T.p_P_labels sc_P_labels (fun _ _ _ _ _ _ us hl => match us, hl with | [_], _ => rfl) (fun vs H Q E h => ?_) (fun f cdv A outer s H vs Q E hr h => ?_)
  · obtain ⟨p, n, l, gs, rfl, _⟩ := h
    rfl
  · obtain ⟨p, n, l, gs, rfl, ⟨dx, t, g, ws, h1, h2, h3, h4⟩, q⟩ := h
    refine ⟨_, (pss_one (ps_ret (pe_ix ix_tup (pe_fld (pv 0) rfl) pe_int (fun _ _ => rfl)))), ?_⟩
    exact ⟨_, rfl, p, CP, dx, _, _, rfl, h1, T.cP.cls, T.cP.parts, parts_at _, _, _, _, _, rfl, rfl, .of h2, rfl, q⟩
theorem sc_P_grants : FnScope ["self"] ["self"] (defScope t_P_grants) := ⟨rfl, rfl, rfl, by decide +kernel, rfl, by decide +kernel, by decide +kernel⟩
theorem ok_P_grants (T : Txt K mg CP CS) : Prp P w K mg base 1 CP "grants" (sp_P_grants CP) := by
  refine prp_of T.cP.cls T.p_P_grants sc_P_grants (fun _ _ _ _ _ _ us hl => match us, hl with | [_], _ => rfl) (fun vs H Q E h => ?_) (fun f cdv A outer s H vs Q E hr h => ?_)
  · obtain ⟨p, n, l, gs, rfl, _⟩ := h
    rfl
  · obtain ⟨p, n, l, gs, rfl, ⟨dx, t, g, ws, h1, h2, h3, h4⟩, q⟩ := h
    refine ⟨_, (pss_one (ps_ret (pe_ix ix_tup (pe_fld (pv 0) rfl) pe_int (fun _ _ => rfl)))), ?_⟩
    exact ⟨_, rfl, p, CP, dx, _, _, rfl, h1, T.cP.cls, T.cP.parts, parts_at _, _, _, _, _, rfl, rfl, .of h2, rfl, q _ _ h3 h4⟩
theorem sc_P_len : FnScope ["self"] ["self"] (defScope t_P_len) := ⟨rfl, rfl, rfl, by decide +kernel, rfl, by decide +kernel, by decide +kernel⟩
theorem ok_P_len (T : Txt K mg CP CS) : Lnp P w K mg base 1 CP (sp_P_len CP) := by
  refine lnp_of T.l_P sc_P_len (fun _ _ _ _ _ _ us hl => match us, hl with | [_], _ => rfl) (fun vs H Q E h => ?_) (fun f cdv A outer s H vs Q E hr h => ?_)
  · obtain ⟨p, n, l, gs, rfl, _⟩ := h
    rfl
  · obtain ⟨p, n, l, gs, rfl, ⟨dx, t, g, ws, h1, h2, h3, h4⟩, q⟩ := h
    refine ⟨_, (pss_one (ps_ret (pe_callB call_len_seq (by rfl) T.b_len bo_len (pa_cons (pe_ix ix_tup (pe_fld (pv 0) rfl) pe_int (fun _ _ => rfl)) pa_nil)))), ?_⟩
    refine ⟨_, rfl, p, CP, dx, _, _, rfl, h1, T.cP.cls, T.cP.parts, parts_at _, _, _, _, _, rfl, rfl, .of h2, rfl, _, _, rfl, .inr (.of h3), ?_⟩
    rw [show ws.length = gs.length by rw [← h4.len, List.length_map]]
    exact q
theorem sc_S_policy : FnScope ["self"] ["self"] (defScope t_S_policy) := ⟨rfl, rfl, rfl, by decide +kernel, rfl, by decide +kernel, by decide +kernel⟩
theorem ok_S_policy (T : Txt K mg CP CS) : Prp P w K mg base 1 CS "policy" (sp_S_policy CP CS) := by
  refine prp_of T.cS.cls T.p_S_policy sc_S_policy (fun _ _ _ _ _ _ us hl => match us, hl with | [_], _ => rfl) (fun vs H Q E h => ?_) (fun f cdv A outer s H vs Q E hr h => ?_)
  · obtain ⟨a, S, rfl, _⟩ := h
    rfl
  · obtain ⟨a, S, rfl, ⟨dx, t, p, f, k, fs, ks, h1, h2, h3, h4, h5, h6, h7⟩, q⟩ := h
    refine ⟨_, (pss_one (ps_ret (pe_ix ix_tup (pe_fld (pv 0) rfl) pe_int (fun _ _ => rfl)))), ?_⟩
    exact ⟨_, rfl, a, CS, dx, _, _, rfl, h1, T.cS.cls, T.cS.parts, parts_at _, _, _, _, _, rfl, rfl, .of h2, rfl, q _ h3⟩
theorem sc_S_fixed : FnScope ["self"] ["self"] (defScope t_S_fixed) := ⟨rfl, rfl, rfl, by decide +kernel, rfl, by decide +kernel, by decide +kernel⟩
theorem ok_S_fixed (T : Txt K mg CP CS) : Prp P w K mg base 1 CS "fixed" (sp_S_fixed CP CS) := by
  refine prp_of T.cS.cls T.p_S_fixed sc_S_fixed (fun _ _ _ _ _ _ us hl => match us, hl with | [_], _ => rfl) (fun vs H Q E h => ?_) (fun f cdv A outer s H vs Q E hr h => ?_)
  · obtain ⟨a, S, rfl, _⟩ := h
    rfl
  · obtain ⟨a, S, rfl, ⟨dx, t, p, f, k, fs, ks, h1, h2, h3, h4, h5, h6, h7⟩, q⟩ := h
    refine ⟨_, (pss_one (ps_ret (pe_ix ix_tup (pe_fld (pv 0) rfl) pe_int (fun _ _ => rfl)))), ?_⟩
    exact ⟨_, rfl, a, CS, dx, _, _, rfl, h1, T.cS.cls, T.cS.parts, parts_at _, _, _, _, _, rfl, rfl, .of h2, rfl, q _ _ h4 h5⟩
theorem sc_S_kept : FnScope ["self"] ["self"] (defScope t_S_kept) := ⟨rfl, rfl, rfl, by decide +kernel, rfl, by decide +kernel, by decide +kernel⟩
theorem ok_S_kept (T : Txt K mg CP CS) : Prp P w K mg base 1 CS "kept" (sp_S_kept CP CS) := by
  refine prp_of T.cS.cls T.p_S_kept sc_S_kept (fun _ _ _ _ _ _ us hl => match us, hl with | [_], _ => rfl) (fun vs H Q E h => ?_) (fun f cdv A outer s H vs Q E hr h => ?_)
  · obtain ⟨a, S, rfl, _⟩ := h
    rfl
  · obtain ⟨a, S, rfl, ⟨dx, t, p, f, k, fs, ks, h1, h2, h3, h4, h5, h6, h7⟩, q⟩ := h
    refine ⟨_, (pss_one (ps_ret (pe_ix ix_tup (pe_fld (pv 0) rfl) pe_int (fun _ _ => rfl)))), ?_⟩
    exact ⟨_, rfl, a, CS, dx, _, _, rfl, h1, T.cS.cls, T.cS.parts, parts_at _, _, _, _, _, rfl, rfl, .of h2, rfl, q _ _ h6 h7⟩
theorem sc_P_init : FnScope ["self", "owners", "labels", "grants"] ["self", "owners", "labels", "grants"] (defScope t_P_init) := ⟨rfl, rfl, rfl, by decide +kernel, rfl, by decide +kernel, by decide +kernel⟩
theorem ok_P_init (T : Txt K mg CP CS) : C8.Mak P w K mg base 6 "Policy" CP (sp_P_init CP) [] := by
  have c_check_policy := ok_check_policy (P := P) (w := w) (base := base) T
  refine mak_of T.cP sc_P_init (fun _ _ _ _ _ _ us hl => match us, hl with | [_, _, _, _], _ => rfl) (fun vs H Q E h => ?_) (fun f cdv A outer s H vs Q E hr h => ?_)
  · obtain ⟨H0, x, dx, n, l, gs, g, ws, rfl, _⟩ := h
    rfl
  · obtain ⟨H0, x, dx, n, l, gs, g, ws, rfl, hx, hd, ne, rfl, e, d, n1, n7, l1, l4, few, ok, q⟩ := h
    have s0 := same_mk (C := CP) hx hd
    refine ⟨_, (pss_cons (ps_expr (C8.pe_c c_check_policy hr (by decide) (by rfl) (pa_cons (pv 1) (pa_cons (pv 2) (pa_cons (pv 3) pa_nil)))))
      (pss_one (ps_fld (pv 0) (pe_tup (pa_cons (pv 1) (pa_cons (pv 2) (pa_cons (pv 3) pa_nil)))) rfl))), ?_⟩
    refine ⟨_, rfl, _, rfl, _, rfl, n, l, gs, g, ws, rfl, s0 _ _ e, d.mono (.of_same s0), n1, n7, l1, l4, few, ok, fun H1 s1 => ?_⟩
    refine ⟨_, rfl, _, rfl, _, rfl, (by show 3 ≤ sizeLine; decide), fun t ht => ?_⟩
    have hx1 : H1 x = some (.ins CP dx []) := s1 _ _ upd_same
    have tx : t ≠ x := (ne_of_none hx1 ht).symm
    have s2 : L2.Same H0 (upd H1 t (.tup [.int (n : Nat), .int (l : Nat), .ref g])) := (s0.trans s1).trans (same_upd ht)
    have s3 : L2.Same H0 (upd (upd H1 t (.tup [.int (n : Nat), .int (l : Nat), .ref g])) x (.ins CP dx [("parts", .ref t)])) := sUp s2 hx
    refine ⟨_, rfl, x, CP, dx, [], rfl, by rw [upd_ne tx.symm]; exact hx1, T.cP.cls, T.cP.parts, by decide, ?_⟩
    refine q _ s3 ⟨dx, t, g, ws, upd_same, by rw [upd_ne tx, upd_same], s3 _ _ e, d.mono (.of_same s3)⟩
theorem sc_S_init : FnScope ["self", "policy", "fixed", "kept"] ["self", "policy", "fixed", "kept"] (defScope t_S_init) := ⟨rfl, rfl, rfl, by decide +kernel, rfl, by decide +kernel, by decide +kernel⟩
theorem ok_S_init (T : Txt K mg CP CS) : C8.Mak P w K mg base 4 "Setting" CS (sp_S_init CP CS) [] := by
  have c_are_roles := ok_are_roles (P := P) (w := w) (base := base) T
  have p_owners := ok_P_owners (P := P) (w := w) (base := base) T
  have p_labels := ok_P_labels (P := P) (w := w) (base := base) T
  have l_len := ok_P_len (P := P) (w := w) (base := base) T
  refine mak_ofS T.cS sc_S_init rfl (fun _ _ _ _ _ _ _ us its h1 h2 => match us, its, h1, h2 with | [_, _, _, _], [_, _], _, _ => ⟨_, rfl, rfl⟩) (fun vs H Q E h => ?_) (fun f cdv A outer s H vs Q E hr h => ?_)
  · obtain ⟨H0, x, dx, S, p, f, k, fs, ks, rfl, _⟩ := h
    rfl
  · obtain ⟨H0, x, dx, S, p, f, k, fs, ks, rfl, hx, hd, ne, rfl, hp, e1, d1, e2, d2, ok, q⟩ := h
    have s0 := same_mk (C := CS) hx hd
    have pol := hp.same s0
    obtain ⟨pdx, pt, pg, pws, h1, h2, h3, h4⟩ := id pol
    have len := ok.few
    have n3 := ok.n3
    refine ⟨_, (pss_cons (ps_if (PW.pt (pw_or (pt_cmpR op_gt (pe_callB (cr_lenP l_len hr (by decide)) (by rfl) T.b_len bo_len (pa_cons (pv 1) pa_nil)) (C8.pe_gc (by rfl) T.k_MAX_SETTLED) (nomark _)) (pw_or1 (pt_cmpR op_eq (pe_pp p_owners hr (by decide) (pv 1)) (C8.pe_gc (by rfl) T.k_MAX_OWNERS) (nomark _))))) pss_never pss_nil)
      (pss_cons (ps_if (pt_not (pt_val (C8.pe_c c_are_roles hr (by decide) (by rfl) (pa_cons (pe_pp p_owners hr (by decide) (pv 1)) (pa_cons (pe_pp p_labels hr (by decide) (pv 1)) (pa_cons (pv 2) pa_nil)))))) pss_never pss_nil)
      (pss_cons (ps_if (pt_not (pt_val (C8.pe_c c_are_roles hr (by decide) (by rfl) (pa_cons (pe_pp p_owners hr (by decide) (pv 1)) (pa_cons (pe_pp p_labels hr (by decide) (pv 1)) (pa_cons (pv 3) pa_nil)))))) pss_never pss_nil)
      (pss_one (ps_fld (pv 0) (pe_tup (pa_cons (pv 1) (pa_cons (pv 2) (pa_cons (pv 3) pa_nil)))) rfl))))), ?_⟩
    refine ⟨_, rfl, p, pdx, _, rfl, h1, p, _, _, _, rfl, pol, S.gs.length, rfl, by omega, _, _, rfl, rfl, _, rfl, ifF (decide_eq_false (by omega)) ?_⟩
    refine ⟨_, rfl, p, pdx, _, rfl, h1, p, _, _, _, rfl, pol, rfl, _, rfl, ifF (decide_eq_false (fun z => by injection z with z; omega)) ?_⟩
    refine ⟨_, rfl, p, pdx, _, rfl, h1, p, _, _, _, rfl, pol, _, rfl, p, pdx, _, rfl, h1, p, _, _, _, rfl, pol, _, rfl, S.n, S.l, S.fx, f, fs, rfl, s0 _ _ e1, d1.mono (.of_same s0), ok.n8, ok.l8, ok.fx, fun H1 s1 => ⟨_, rfl, iteF ?_⟩⟩
    have pol1 := pol.same s1
    have s01 := s0.trans s1
    refine ⟨_, rfl, p, pdx, _, rfl, s1 _ _ h1, p, _, _, _, rfl, pol1, _, rfl, p, pdx, _, rfl, s1 _ _ h1, p, _, _, _, rfl, pol1, _, rfl, S.n, S.l, S.kp, k, ks, rfl, s01 _ _ e2, d2.mono (.of_same s01), ok.n8, ok.l8, ok.kp, fun H2 s2 => ⟨_, rfl, iteF ?_⟩⟩
    have s02 := s01.trans s2
    refine ⟨_, rfl, _, rfl, _, rfl, (by show 3 ≤ sizeLine; decide), fun t ht => ?_⟩
    have hx1 : H2 x = some (.ins CS dx []) := (s1.trans s2) _ _ upd_same
    have tx : t ≠ x := (ne_of_none hx1 ht).symm
    have s3 : L2.Same H0 (upd H2 t (.tup [.ref p, .ref f, .ref k])) := s02.trans (same_upd ht)
    have s4 : L2.Same H0 (upd (upd H2 t (.tup [.ref p, .ref f, .ref k])) x (.ins CS dx [("parts", .ref t)])) := sUp s3 hx
    refine ⟨_, rfl, x, CS, dx, [], rfl, by rw [upd_ne tx.symm]; exact hx1, T.cS.cls, T.cS.parts, by decide, ?_⟩
    exact q _ s4 ⟨dx, t, p, f, k, fs, ks, upd_same, by rw [upd_ne tx, upd_same], hp.same s4, s4 _ _ e1, d1.mono (.of_same s4), s4 _ _ e2, d2.mono (.of_same s4)⟩
end
end G53


/-! The walk: told_roles, check_plain, is_by, is_closed_under. -/
namespace G53
open PySem PySem.Spec PyProof.Rows L2

open Classical in
/-- the told roles, ascending -/
noncomputable def told (S : Stg) : List Role := (allR S.n S.l).filter fun r => decide (Told S r)
theorem allR_asc (l : Nat) (hl : l ≤ 8) : ∀ n : Nat, (allR n l).Pairwise fun r s => rR r < rR s
  | 0 => by simp [allR]
  | n + 1 => by
    rw [allR_succ, List.pairwise_append]
    refine ⟨allR_asc l hl n, ?_, fun r hr s hs => ?_⟩
    · unfold rowR
      rw [List.pairwise_map]
      refine List.Pairwise.imp (fun {a b} h => ?_) List.pairwise_lt_range
      show n * 8 + a < n * 8 + b
      omega
    · have h1 := mem_allR.mp hr
      obtain ⟨k, hk, rfl⟩ := List.mem_map.mp hs
      have hk := List.mem_range.mp hk
      have h2 := h1.1
      have h3 := h1.2
      show r.1 * 8 + r.2 < n * 8 + k
      omega
theorem OkG.told {n l : Nat} : ∀ {g : Grant}, OkG n l g → ∀ r ∈ rolesIn g, OkR n l r
  | (r, .own o), h, s, hs => by
    have e : s = r := by simpa [rolesIn, bodyRoles] using hs
    exact e ▸ h.1
  | (r, .rol t), h, s, hs => by
    have e : s = r ∨ s = t := by simpa [rolesIn, bodyRoles] using hs
    rcases e with e | e
    · exact e ▸ h.1
    · exact e ▸ h.2
  | (r, .bth t u), h, s, hs => by
    have e : s = r ∨ s = t ∨ s = u := by simpa [rolesIn, bodyRoles] using hs
    rcases e with e | e | e
    · exact e ▸ h.1
    · exact e ▸ h.2.1
    · exact e ▸ h.2.2.1
open Classical in
theorem mem_told {S : Stg} (h : Grants S.n S.l S.gs) {r : Role} : r ∈ told S ↔ Told S r := by
  unfold told
  rw [List.mem_filter, decide_eq_true_eq]
  refine ⟨fun z => z.2, fun z => ⟨mem_allR.mpr ?_, z⟩⟩
  obtain ⟨g, hg, hr⟩ := z
  exact (h.1 g hg).told r hr
theorem told_asc {S : Stg} (hl : S.l ≤ 8) : (told S).Pairwise fun r s => rR r < rR s := (allR_asc S.l hl S.n).filter _
theorem told_len (S : Stg) : (told S).length ≤ S.n * S.l := by
  rw [← allR_len]
  exact List.length_filter_le _ _
theorem told_roles_ok {S : Stg} (h : OkS S) : Roles S.n S.l (told S) := ⟨fun r hr => mem_allR.mp (List.mem_filter.mp hr).1, told_asc h.l8⟩
/-- one ascending list of given members -/
theorem asc_unique {f : Role → Nat} : ∀ {l m : List Role}, l.Pairwise (fun r s => f r < f s) → m.Pairwise (fun r s => f r < f s) → (∀ r, r ∈ l ↔ r ∈ m) → l = m
  | [], [], _, _, _ => rfl
  | [], y :: m, _, _, h => absurd ((h y).mpr List.mem_cons_self) (by simp)
  | x :: l, [], _, _, h => absurd ((h x).mp List.mem_cons_self) (by simp)
  | x :: l, y :: m, h1, h2, h => by
    obtain ⟨a1, a2⟩ := List.pairwise_cons.mp h1
    obtain ⟨b1, b2⟩ := List.pairwise_cons.mp h2
    have e : x = y := by
      rcases List.mem_cons.mp ((h x).mp List.mem_cons_self) with e | hx
      · exact e
      · rcases List.mem_cons.mp ((h y).mpr List.mem_cons_self) with e | hy
        · exact e.symm
        · have := b1 x hx
          have := a1 y hy
          omega
    subst e
    have e2 : l = m := asc_unique a2 b2 fun r => by
      constructor
      · intro hr
        rcases List.mem_cons.mp ((h r).mp (List.mem_cons_of_mem _ hr)) with e | q
        · have := a1 r hr
          rw [e] at this
          omega
        · exact q
      · intro hr
        rcases List.mem_cons.mp ((h r).mpr (List.mem_cons_of_mem _ hr)) with e | q
        · have := b1 r hr
          rw [e] at this
          omega
        · exact q
    rw [e2]
/-- cells that are roles -/
theorem cells_roles {M : List Cel} (h : ∀ p ∈ M, ∃ r, p.2 = eR r) : ∃ rs : List Role, M.map (·.2) = rs.map eR := by
  induction M with
  | nil => exact ⟨[], rfl⟩
  | cons p M ih =>
    obtain ⟨rs, e⟩ := ih fun q hq => h q (List.mem_cons_of_mem _ hq)
    obtain ⟨r, er⟩ := h p List.mem_cons_self
    exact ⟨r :: rs, by rw [List.map_cons, List.map_cons, e, er]⟩
theorem memR {r : Role} {rs : List Role} : eR r ∈ rs.map eR ↔ r ∈ rs := ⟨fun h => by
  obtain ⟨s, hs, e⟩ := List.mem_map.mp h
  exact eR_inj e ▸ hs, fun h => List.mem_map_of_mem h⟩
theorem eR_tup (r : Role) : ∃ l, eR r = .tup l := ⟨_, rfl⟩
/-- sorted cells of roles, without doubles: the ascending list -/
theorem sorted_roles {M : List Cel} {l : List Role} (hl : l.Pairwise fun r s => rR r < rR s) (hm : ∀ k, k ∈ M.map (·.2) ↔ k ∈ l.map eR) (hn : (M.map (·.2)).Nodup) (hs : ∀ r ∈ l, Sm r) (hp : M.Pairwise fun x y => kR x.2 ≤ kR y.2) : M.map (·.2) = l.map eR := by
  obtain ⟨rs, e⟩ := cells_roles (M := M) fun p hp => by
    obtain ⟨r, _, e⟩ := List.mem_map.mp ((hm p.2).mp (List.mem_map_of_mem hp))
    exact ⟨r, e.symm⟩
  have mem : ∀ r, r ∈ rs ↔ r ∈ l := fun r => by
    rw [← memR (rs := rs), ← e, hm, memR]
  have sm : ∀ r ∈ rs, Sm r := fun r hr => hs r ((mem r).mp hr)
  have nd : rs.Nodup := by
    rw [e] at hn
    exact (List.pairwise_map.mp hn).imp fun h z => h (congrArg eR z)
  have pw : rs.Pairwise fun r s => rR r ≤ rR s := by
    have z : (M.map (·.2)).Pairwise fun x y => kR x ≤ kR y := List.pairwise_map.mpr hp
    rw [e, List.pairwise_map] at z
    refine z.imp fun {a b} h => ?_
    rw [kR_eq, kR_eq] at h
    omega
  have asc : rs.Pairwise fun r s => rR r < rR s := by
    refine List.Pairwise.imp_of_mem (R := fun r s => rR r ≤ rR s ∧ r ≠ s) (fun {a b} ha hb h => ?_) (pw.and nd)
    rcases Nat.lt_or_ge (rR a) (rR b) with q | q
    · exact q
    · exact absurd (rR_inj (sm a ha) (sm b hb) (Nat.le_antisymm h.1 q)) h.2
  rw [e, asc_unique asc hl mem]
/-- the roles of some grants, one after another -/
def rolesOf (gs : List Grant) : List Role := gs.flatMap rolesIn
theorem rolesOf_snoc (gs : List Grant) (g : Grant) : rolesOf (gs ++ [g]) = rolesOf gs ++ rolesIn g := by simp [rolesOf, List.flatMap_append]
theorem rolesIn_len (g : Grant) : (rolesIn g).length ≤ 3 := by
  obtain ⟨r, b⟩ := g
  cases b <;> simp [rolesIn, bodyRoles]
theorem rolesOf_len (gs : List Grant) : (rolesOf gs).length ≤ gs.length * 3 := by
  induction gs with
  | nil => simp [rolesOf]
  | cons g gs ih =>
    have := rolesIn_len g
    simp only [rolesOf, List.flatMap_cons, List.length_append, List.length_cons] at *
    omega
theorem mem_rolesOf {S : Stg} {r : Role} : r ∈ rolesOf S.gs ↔ Told S r := by
  unfold rolesOf Told
  rw [List.mem_flatMap]
theorem take_snoc {α : Type} {l : List α} {i : Nat} {x : α} (h : l[i]? = some x) : l.take (i + 1) = l.take i ++ [x] := by
  rw [List.take_add_one, h]
  rfl
/-- a body's word is not through -/
theorem dBw {H : Hp} {b : Body} {v : V} (d : DV H (eB b) v) : ∃ a t rest, v = .ref a ∧ H a = some (.tup (.str t :: rest)) ∧ t ≠ "through" := by
  cases b with
  | own o =>
    obtain ⟨a, rfl, e⟩ := dB1 d
    exact ⟨a, _, _, rfl, e, by decide +kernel⟩
  | rol r =>
    obtain ⟨a, x, rfl, e, _⟩ := dB2 d
    exact ⟨a, _, _, rfl, e, by decide +kernel⟩
  | bth r s =>
    obtain ⟨a, x, y, rfl, e, _⟩ := dB3 d
    exact ⟨a, _, _, rfl, e, by decide +kernel⟩
def byBb (o : Nat) (rs : List Role) : Body → Bool
  | .own p => decide (p = o)
  | .rol r => decide (r ∈ rs)
  | .bth r s => decide (r ∈ rs) && decide (s ∈ rs)
theorem byBb_iff {o : Nat} {rs : List Role} : ∀ {b : Body}, byBb o rs b = true ↔ byB o (· ∈ rs) b
  | .own p => by simp [byBb, byB]
  | .rol r => by simp [byBb, byB]
  | .bth r s => by simp [byBb, byB]
/-- a list or a tuple -/
def LT (H : Hp) (c : Addr) (ws : List V) : Prop := H c = some (.lst ws) ∨ H c = some (.tup ws)
theorem LT.same {H H' : Hp} {c : Addr} {ws : List V} (h : LT H c ws) (s : L2.Same H H') : LT H' c ws := h.elim (fun e => .inl (s _ _ e)) fun e => .inr (s _ _ e)
theorem LT.sq {K : PySem.W.Frag} {H : Hp} {c : Addr} {ws : List V} (h : LT H c ws) : SqL K H c ws ∨ SqT K H c ws := h.elim (fun e => .inl (.of e)) fun e => .inr (.of e)
/-- a list of bools at D, new since H -/
def Bls (H : Hp) (D : Addr) (bs : List Bool) (H' : Hp) : Prop := L2.Same H H' ∧ H D = none ∧ H' D = some (.lst (bs.map V.bl))
theorem Bls.nil {H H' : Hp} {D : Addr} (s : L2.Same H H') (h : H' D = none) : Bls H D [] (upd H' D (.lst [])) := ⟨sNew s h, s.free h, upd_same⟩
theorem Bls.step {H H' : Hp} {D : Addr} {bs : List Bool} (b : Bool) (h : Bls H D bs H') (hk : bs.length ≤ 100) : ∃ acc, H' D = some (.lst acc) ∧ acc.length < sizeLine ∧ Bls H D (bs ++ [b]) (upd H' D (.lst (acc ++ [.bl b]))) := by
  obtain ⟨s, hD, e⟩ := h
  refine ⟨_, e, ?_, sUp s hD, hD, ?_⟩
  · rw [List.length_map, sizeLine_eq]
    omega
  · rw [upd_same, List.map_append]
    rfl
theorem Bls.skip {H H' H2 : Hp} {D : Addr} {bs : List Bool} (h : Bls H D bs H') (s : L2.Same H' H2) : Bls H D bs H2 := ⟨h.1.trans s, h.2.1, s _ _ h.2.2⟩

def sp_told_roles (CP : Addr) : Sp := fun vs H Q _ => ∃ (p : Addr) (S : Stg), vs = [.ref p] ∧ PolD CP H p S.n S.l S.gs ∧ S.n ≤ 8 ∧ S.l ≤ 8 ∧ S.gs.length ≤ 20 ∧ Grants S.n S.l S.gs ∧ ∀ H' c ws, L2.Same H H' → H' c = some (.lst ws) → DVs H' ((told S).map eR) ws → Q (.ref c) H'
def sp_check_plain (CP CS : Addr) : Sp := fun vs H Q _ => ∃ (a : Addr) (S : Stg), vs = [.ref a] ∧ StgD CP CS H a S ∧ OkS S ∧ (told S).length ≤ 10 ∧ ∀ H', L2.Same H H' → Q .non H'
def sp_is_by : Sp := fun vs H Q _ => ∃ (b : Body) (o : Nat) (v : V) (c : Addr) (rs : List Role) (ws : List V), vs = [v, .int (o : Nat), .ref c] ∧ DV H (eB b) v ∧ LT H c ws ∧ DVs H (rs.map eR) ws ∧ ∀ H', L2.Same H H' → Q (.bl (byBb o rs b)) H'
section
variable {P : Program} {w : World} {K : PySem.W.Frag} {mg : Str → Option Value} {base : Heap} {CP CS : Addr}
theorem sc_told_roles : FnScope ["policy", "found", "grant"] ["policy"] (defScope t_told_roles) := ⟨rfl, rfl, rfl, by decide +kernel, rfl, by decide +kernel, by decide +kernel⟩
theorem ok_told_roles (T : Txt K mg CP CS) : C8.Cal P w K mg base 3 "told_roles" (sp_told_roles CP) [] := by
  have c_roles_in := ok_roles_in (P := P) (w := w) (base := base) T
  have p_grants := ok_P_grants (P := P) (w := w) (base := base) T
  refine cal_of T.d_told_roles sc_told_roles (fun _ _ _ _ _ _ us hl => match us, hl with | [_], _ => rfl) (fun vs H Q E h => ?_) (fun f cdv A outer s H vs Q E hr h => ?_)
  · obtain ⟨p, S, rfl, _⟩ := h
    rfl
  · obtain ⟨p, S, rfl, pol, hn, hl, few, ok, q⟩ := h
    obtain ⟨pdx, pt, pg, pws, h1, h2, h3, h4⟩ := id pol
    have len : pws.length = S.gs.length := by rw [← h4.len, List.length_map]
    refine ⟨_, (pss_cons (ps_set (i := 1) sc_told_roles.nd rfl (Or.inl rfl) (pe_lst pa_nil))
      (pss_cons (ps_for PassesOwn.never rfl (pi_tup (pe_pp p_grants hr (by decide) (pv 0))) (pg_name (i := 2) sc_told_roles.nd rfl (by first | exact Or.inl rfl | exact Or.inr rfl)) (pss_one (ps_expr (pe_bm PySem.F.plainAttrs_list PySem.F.slot_list_extend PySem.F.type_list_extend mt_extend (pv 1) (pa_cons (C8.pe_c c_roles_in hr (by decide) (by rfl) (pa_cons (pv 2) pa_nil)) pa_nil)))))
      (pss_one (ps_ret (pe_callB (cr_sortN rankedR rfl hr.units) (by rfl) T.b_sorted bo_sorted (pa_cons (pe_callTy (cr_setN rfl hr.units) (by rfl) T.b_set bo_set (pa_cons (pv 1) pa_nil)) pa_nil)))))), ?_⟩
    refine ⟨by decide, fun c hc => ?_⟩
    have s0 : L2.Same H (upd H c (.lst [])) := same_upd hc
    refine ⟨_, rfl, p, pdx, _, rfl, s0 _ _ h1, p, _, _, _, rfl, pol.same s0, fun g ws eg dg => ?_⟩
    have len : ws.length = S.gs.length := by rw [← dg.len, List.length_map]
    have gc : g ≠ c := fun z => by
      rw [z, upd_same] at eg
      cases eg
    refine ⟨_, rfl, ⟨_, .of eg⟩, for_tup (xs := ws) (fun i σ H' => ∃ x us, σ = [some (.ref p), some (.ref c), x] ∧ L2.Same H H' ∧ Tk (upd H c (.lst [])) H' ∧ H' c = some (.lst us) ∧ DVs H' ((rolesOf (S.gs.take i)).map eR) us) ⟨_, [], rfl, s0, Tk.refl _, upd_same, .nil⟩ (fun i σ H' _ ⟨_, _, _, _, t, _⟩ => .of (t _ _ eg)) ?_ ?_⟩
    · rintro i x σ H1 hx ⟨_, us, rfl, s1, t1, e1, d1⟩
      obtain ⟨gr, hg, dgr⟩ := dvsG dg hx
      have hi := (List.getElem?_eq_some_iff.mp hg).1
      refine ⟨_, rfl, .inl ⟨rfl, _, .of e1⟩, _, rfl, gr, x, rfl, dgr.mono t1, fun H2 b zs s2 eb db => ?_⟩
      have e2 := s2 _ _ e1
      have l1 : us.length ≤ 60 := by
        rw [← d1.len, List.length_map]
        have := rolesOf_len (S.gs.take i)
        rw [List.length_take] at this
        omega
      have l2 : zs.length ≤ 3 := by
        rw [← db.len, List.length_map]
        exact rolesIn_len gr
      have tp := tk_put (o := .lst (us ++ zs)) e2
      refine ⟨c, b, us, zs, rfl, rfl, e2, eb, by rw [sizeLine_eq]; omega, _, _, rfl, sUp (s1.trans s2) hc, (t1.trans (.of_same s2)).trans tp, upd_same, ?_⟩
      rw [take_snoc hg, rolesOf_snoc, List.map_append]
      exact ((d1.mono (.of_same s2)).app db).mono tp
    · rintro σ H1 ⟨_, us, rfl, s1, t1, e1, d1⟩
      rw [len, List.take_length] at d1
      obtain ⟨L, lk, lv, lc⟩ := cels_of d1 fun k hk => by
        obtain ⟨r, _, e⟩ := List.mem_map.mp hk
        exact ⟨_, e.symm⟩
      have l1 : L.length ≤ 60 := by
        have z := congrArg List.length lk
        rw [List.length_map, List.length_map] at z
        have := rolesOf_len S.gs
        omega
      have dep : ∀ p ∈ L, ∃ r, p.2 = eR r ∧ r ∈ rolesOf S.gs := fun p hp => by
        obtain ⟨r, hr, e⟩ := List.mem_map.mp (lk ▸ List.mem_map_of_mem (f := fun x : Cel => x.2) hp)
        exact ⟨r, e.symm, hr⟩
      subst lv
      refine ⟨_, rfl, c, L, rfl, .of e1, lc, fun p hp => ?_, by omega, fun b M hb sub all nd lt => ?_⟩
      · obtain ⟨r, e, _⟩ := dep p hp
        rw [e]
        exact dep_eR r
      · have c2 : Cels (upd H1 b (SetD w b M)) M := fun p hp => (lc p (sub p hp)).mono (tk_upd hb)
        refine ⟨b, M, rfl, .inr (.inr upd_same), c2, fun p hp => ?_, lt, fun q' M2 hq' pm pw => ?_⟩
        · obtain ⟨r, e, hr⟩ := dep p (sub p hp)
          obtain ⟨g2, hg2, hr2⟩ := mem_rolesOf.mp hr
          exact ⟨r, e, ((ok.1 g2 hg2).told r hr2).sm hn hl⟩
        · have keys : M2.map (·.2) = (told S).map eR := by
            refine sorted_roles (told_asc hl) (fun k => ?_) ?_ (fun r hr => ?_) pw
            · rw [(pm.map (·.2)).mem_iff]
              constructor
              · intro hk
                obtain ⟨p, hp, rfl⟩ := List.mem_map.mp hk
                obtain ⟨r, e, hr⟩ := dep p (sub p hp)
                rw [e]
                exact memR.mpr ((mem_told ok).mpr (mem_rolesOf.mp hr))
              · intro hk
                obtain ⟨r, hr, rfl⟩ := List.mem_map.mp hk
                have hr2 : eR r ∈ L.map (·.2) := by
                  rw [lk]
                  exact memR.mpr (mem_rolesOf.mpr ((mem_told ok).mp hr))
                obtain ⟨p, hp, e⟩ := List.mem_map.mp hr2
                rw [← e]
                exact all p hp
            · exact (pm.map (·.2)).nodup_iff.mpr nd
            · obtain ⟨g2, hg2, hr2⟩ := (mem_told ok).mp hr
              exact ((ok.1 g2 hg2).told r hr2).sm hn hl
          have c3 : Cels (upd (upd H1 b (SetD w b M)) q' (.lst (M2.map cv))) M2 := fun p hp => (c2 p (pm.mem_iff.mp hp)).mono (tk_upd hq')
          refine q _ q' _ (sNew (sNew s1 hb) hq') upd_same ?_
          rw [← keys]
          exact cels_dvs c3
theorem sc_check_plain : FnScope ["setting", "role", "body"] ["setting"] (defScope t_check_plain) := ⟨rfl, rfl, rfl, by decide +kernel, rfl, by decide +kernel, by decide +kernel⟩
theorem ok_check_plain (T : Txt K mg CP CS) : C8.Cal P w K mg base 4 "check_plain" (sp_check_plain CP CS) [] := by
  have c_told_roles := ok_told_roles (P := P) (w := w) (base := base) T
  have p_grants := ok_P_grants (P := P) (w := w) (base := base) T
  have p_policy := ok_S_policy (P := P) (w := w) (base := base) T
  refine cal_of T.d_check_plain sc_check_plain (fun _ _ _ _ _ _ us hl => match us, hl with | [_], _ => rfl) (fun vs H Q E h => ?_) (fun f cdv A outer s H vs Q E hr h => ?_)
  · obtain ⟨a, S, rfl, _⟩ := h
    rfl
  · obtain ⟨a, S, rfl, stg, ok, few, q⟩ := h
    have fg := ok.few
    refine ⟨_, (pss_cons (ps_if (pt_val (pe_callB (cr_any rfl) (by rfl) T.b_any bo_any (pa_cons (pe_lc rfl sc_check_plain.nd (pi_tup (pe_pp p_grants hr (by decide) (pe_pp p_policy hr (by decide) (pv 0)))) (blkOk_by (own := [("role", 1), ("body", 2)]) (by show blkC ["setting", "role", "body"] (defScope t_check_plain) _ _ = true; decide +kernel)) (fun _ _ _ _ _ => (pg_two (K := K) (i := 1) (j := 2) rfl rfl sc_check_plain.nd rfl rfl (by first | exact Or.inl rfl | exact Or.inr rfl) (by first | exact Or.inl rfl | exact Or.inr rfl) (by first | exact Or.inl rfl | exact Or.inr rfl) (by first | exact Or.inl rfl | exact Or.inr rfl))) (fun _ _ _ _ _ => pts_nil) (fun _ _ _ _ _ => (pe_cmpR op_eq (pe_ix (ix_tupK (K := K) rfl) (pv 2) pe_int (fun _ _ => rfl)) pe_str (nomark _)))) pa_nil))) pss_never pss_nil)
      (pss_one (ps_if (pt_cmpR op_gt (pe_callB call_len_seq (by rfl) T.b_len bo_len (pa_cons (C8.pe_c c_told_roles hr (by decide) (by rfl) (pa_cons (pe_pp p_policy hr (by decide) (pv 0)) pa_nil)) pa_nil)) (C8.pe_gc (by rfl) T.k_MAX_PLAIN) (nomark _)) pss_never pss_nil))), ?_⟩
    refine ⟨_, rfl, rd_policy stg fun p pol => rd_grants pol fun g ws eg dg => ⟨_, rfl, ⟨_, .of eg⟩, fun D hD => lc_tup (xs := ws) (fun i H' => Bls H D (List.replicate i false) H') (Bls.nil (Same.refl H) hD) (fun i H' _ t => .of (t.1 _ _ eg)) ?_ ?_⟩⟩
    · rintro i x H1 hx t
      obtain ⟨gr, hg, dgr⟩ := dvsG dg hx
      have hi := (List.getElem?_eq_some_iff.mp hg).1
      obtain ⟨c, y, z, rfl, ec, dy, dz⟩ := dG (dgr.mono (.of_same t.1))
      obtain ⟨b, tx, rest, rfl, eb, ne⟩ := dBw dz
      refine ⟨_, _, rfl, .of ec, rfl, _, _, rfl, _, _, rfl, rfl, rfl, _, rfl, _, _, _, _, rfl, rfl, .of eb, atI_nat (j := 0) rfl, rfl, ?_⟩
      rw [decide_eq_false (fun e => ne (V.str.inj e))]
      obtain ⟨acc, k1, k2, k3⟩ := t.step false (by rw [List.length_replicate]; omega)
      exact ⟨acc, k1, k2, by rw [List.replicate_succ']; exact k3⟩
    · rintro H1 ⟨s1, _, e1⟩
      refine ⟨_, _, rfl, .of e1, _, rfl, ?_⟩
      rw [show (List.replicate ws.length false).any id = false by rw [List.any_eq_false]; intro x hx; rw [List.eq_of_mem_replicate hx]; decide]
      refine ⟨_, rfl, rd_policy (stg.same s1) fun p' pol' => ⟨p', S, rfl, pol', ok.n8, ok.l8, ok.few, ok.gs, fun H2 c us s2 ec dc => ?_⟩⟩
      have len : us.length = (told S).length := by rw [← dc.len, List.length_map]
      refine ⟨_, _, rfl, .inl (.of ec), _, _, rfl, rfl, _, rfl, ?_⟩
      refine ifF (decide_eq_false (by omega)) (q _ (s1.trans s2))
theorem sc_is_by : FnScope ["body", "owner", "some", "role"] ["body", "owner", "some"] (defScope t_is_by) := ⟨rfl, rfl, rfl, by decide +kernel, rfl, by decide +kernel, by decide +kernel⟩
theorem ok_is_by (T : Txt K mg CP CS) : C8.Cal P w K mg base 1 "is_by" sp_is_by [] := by
  refine cal_of T.d_is_by sc_is_by (fun _ _ _ _ _ _ us hl => match us, hl with | [_, _, _], _ => rfl) (fun vs H Q E h => ?_) (fun f cdv A outer s H vs Q E hr h => ?_)
  · obtain ⟨b, o, v, c, rs, ws, rfl, _⟩ := h
    rfl
  · obtain ⟨b, o, v, c, rs, ws, rfl, d, sc, dc, q⟩ := h
    refine ⟨_, (pss_cons (ps_if (pt_cmpR op_eq (pe_ix ix_tup (pv 0) pe_int (fun _ _ => rfl)) pe_str (nomark _)) (pss_one (ps_ret (pe_cmpR op_eq (pe_ix ix_tup (pv 0) pe_int (fun _ _ => rfl)) (pv 1) (nomark _)))) pss_nil)
      (pss_one (ps_ret (pe_callB (cr_all rfl) (by rfl) T.b_all bo_all (pa_cons (pe_lc rfl sc_is_by.nd (pi_tup (pe_slice sl_tupA (pv 0) (po_some pe_int) po_none)) (blkOk_by (own := [("role", 3)]) (by show blkC ["body", "owner", "some", "role"] (defScope t_is_by) _ _ = true; decide +kernel)) (fun _ _ _ _ _ => (pg_name (i := 3) sc_is_by.nd rfl (by first | exact Or.inl rfl | exact Or.inr rfl))) (fun _ _ _ _ _ => pts_nil) (fun _ _ _ _ _ => (pe_cmpR (op_inK (K := K) rfl hr.units) (pv 3) (pv 2) (by with_unfolding_all rfl)))) pa_nil))))), ?_⟩
    have go : ∀ (ls : List Role) (t : Addr) (us : List V) (H1 : Hp), L2.Same H H1 → H1 t = some (.tup us) → DVs H1 (ls.map eR) us → ls.length ≤ 2 → (∀ H', L2.Same H H' → Q (.bl ((ls.map fun r => decide (r ∈ rs)).all id)) H') → ∀ D, H1 D = none → _ := fun ls t us H1 s1 et dt l2 q' D hD =>
      lc_tup (K := K) (a := t) (xs := us) (g := gName 3) (tt := tYes) (te := tOp (rInN K false) (tVar 3) (tVar 2)) (vs := [3]) (σ := [some v, some (V.int (o : Nat)), some (V.ref c), none]) (H1 := H1) (D := D) (Qd := fun H3 => AllEnd K Q (.ref D) H3)
        (fun i H' => Bls H D ((ls.take i).map fun r => decide (r ∈ rs)) H' ∧ L2.Same H1 H') ⟨Bls.nil s1 hD, same_upd hD⟩ (fun i H' _ t => .of (t.2 _ _ et)) (by
          rintro i x H' hx ⟨tb, s2⟩
          obtain ⟨r, hr, dr⟩ := dvsR dt hx
          have hi := (List.getElem?_eq_some_iff.mp hr).1
          refine ⟨rfl, _, rfl, _, rfl, eR r, rs.map eR, c, ws, dr.mono (.of_same s2), rfl, (sc.same tb.1).sq, dc.mono (.of_same tb.1), dep_eR r, ?_⟩
          rw [show (if false = true then !decide (eR r ∈ rs.map eR) else decide (eR r ∈ rs.map eR)) = decide (r ∈ rs) from decide_eq_decide.mpr memR]
          obtain ⟨acc, k1, k2, k3⟩ := tb.step (decide (r ∈ rs)) (by rw [List.length_map, List.length_take]; omega)
          refine ⟨acc, k1, k2, ?_, sUp s2 hD⟩
          rw [take_snoc hr, List.map_append]
          exact k3) (fun H3 t => ⟨D, _, rfl, .of t.1.2.2, by
          rw [List.take_of_length_le (by rw [← dt.len, List.length_map]; exact Nat.le_refl _)]
          exact q' _ t.1.1⟩)
    cases b with
    | own p =>
      obtain ⟨a, rfl, e⟩ := dB1 d
      refine ⟨_, rfl, _, _, _, _, rfl, rfl, .of e, rfl, rfl, _, rfl, ifT (by decide +kernel) ⟨_, rfl, _, _, _, _, rfl, rfl, .of e, rfl, _, rfl, rfl, ?_⟩⟩
      rw [show decide (V.int (p : Nat) = V.int (o : Nat)) = byBb o rs (.own p) from decide_eq_decide.mpr ⟨fun z => by injection z with z; omega, fun z => by rw [z]⟩]
      exact q _ (Same.refl H)
    | rol r =>
      obtain ⟨a, x, rfl, e, dx⟩ := dB2 d
      refine ⟨_, rfl, _, _, _, _, rfl, rfl, .of e, rfl, rfl, _, rfl, ifF (by decide +kernel) ?_⟩
      refine ⟨_, rfl, _, rfl, _, _, rfl, .of e, fun hw => absurd (cut1w _ hw) (by simp), fun _ p hp => ?_⟩
      have e3 : upd H p (.tup (cutV [.str "role", x] (some 1) none)) p = some (.tup [x]) := by rw [upd_same, cut1]; rfl
      refine ⟨p, rfl, ⟨_, .of e3⟩, fun D hD => go [r] p [x] _ (same_upd hp) e3 (.cons (dx.mono (tk_upd hp)) .nil) (by simp) (fun H' s' => ?_) D hD⟩
      have z := q H' s'
      simpa [byBb] using z
    | bth r s' =>
      obtain ⟨a, x, y, rfl, e, dx, dy⟩ := dB3 d
      refine ⟨_, rfl, _, _, _, _, rfl, rfl, .of e, rfl, rfl, _, rfl, ifF (by decide +kernel) ?_⟩
      refine ⟨_, rfl, _, rfl, _, _, rfl, .of e, fun hw => absurd (cut1w _ hw) (by simp), fun _ p hp => ?_⟩
      have e3 : upd H p (.tup (cutV [.str "both", x, y] (some 1) none)) p = some (.tup [x, y]) := by rw [upd_same, cut1]; rfl
      refine ⟨p, rfl, ⟨_, .of e3⟩, fun D hD => go [r, s'] p [x, y] _ (same_upd hp) e3 (.cons (dx.mono (tk_upd hp)) (.cons (dy.mono (tk_upd hp)) .nil)) (by simp) (fun H' s'' => ?_) D hD⟩
      have z := q H' s''
      simpa [byBb] using z
end
end G53


/-! The walk: is_closed_under, made_from, subsets. -/
namespace G53
open PySem PySem.Spec PyProof.Rows L2

/-- the grant is kept, its role is not among W, though it follows -/
def opens (S : Stg) (o : Nat) (W : List Role) (g : Grant) : Bool := decide (g.1 ∈ S.kp) && (!decide (g.1 ∈ W) && byBb o W g.2)
def closedB (S : Stg) (o : Nat) (W : List Role) : Bool := !(S.gs.any (opens S o W))
theorem closedB_iff {S : Stg} {o : Nat} {W : List Role} : closedB S o W = true ↔ Closed S o W := by
  unfold closedB Closed
  rw [Bool.not_eq_true', List.any_eq_false]
  constructor
  · intro h r b hg hk hb
    have q := h (r, b) hg
    by_cases hr : r ∈ W
    · exact hr
    · refine absurd ?_ q
      simp only [opens, decide_eq_true hk, decide_eq_false hr, byBb_iff.mpr hb]
      rfl
  · rintro h ⟨r, b⟩ hg q
    simp only [opens, Bool.and_eq_true, decide_eq_true_eq, Bool.not_eq_true', decide_eq_false_iff_not] at q
    exact q.2.1 (h r b hg q.1 (byBb_iff.mp q.2.2))
/-- the grant gives a role of W that is not found yet -/
def adds (o : Nat) (W F : List Role) (g : Grant) : Bool := decide (g.1 ∈ W) && (!decide (g.1 ∈ F) && byBb o F g.2)
abbrev eRow (W : List Role) : NK := .tup (W.map eR)
theorem dRow {H : Hp} {W : List Role} {v : V} (d : DV H (eRow W) v) : ∃ a ws, v = .ref a ∧ H a = some (.tup ws) ∧ DVs H (W.map eR) ws := by
  cases d with
  | tup e d => exact ⟨_, _, rfl, e, d⟩
theorem dvsRow {H : Hp} {rs : List (List Role)} {ws : List V} {i : Nat} {x : V} (d : DVs H (rs.map eRow) ws) (h : ws[i]? = some x) : ∃ W, rs[i]? = some W ∧ DV H (eRow W) x := by
  obtain ⟨k, hk, dk⟩ := d.get h
  rw [List.getElem?_map] at hk
  obtain ⟨r, hr, rfl⟩ := Option.map_eq_some_iff.mp hk
  exact ⟨r, hr, dk⟩
def sp_is_closed_under (CP CS : Addr) : Sp := fun vs H Q _ => ∃ (a : Addr) (S : Stg) (o : Nat) (c : Addr) (W : List Role) (ws : List V), vs = [.ref a, .int (o : Nat), .ref c] ∧ StgD CP CS H a S ∧ LT H c ws ∧ DVs H (W.map eR) ws ∧ ∀ H', L2.Same H H' → Q (.bl (closedB S o W)) H'
def sp_made_from (CP CS : Addr) : Sp := fun vs H Q _ => ∃ (a : Addr) (S : Stg) (o : Nat) (c : Addr) (W : List Role) (ws : List V), vs = [.ref a, .int (o : Nat), .ref c] ∧ StgD CP CS H a S ∧ H c = some (.tup ws) ∧ DVs H (W.map eR) ws ∧ W.Nodup ∧ W.length ≤ 64 ∧
  ∀ (H' : Hp) (p : Addr) (F : List Role) (fs : List V), L2.Same H H' → H' p = some (.lst fs) → DVs H' (F.map eR) fs → F.Nodup → (∀ r, r ∈ F ↔ Der S o W r) → Q (.ref p) H'
def sp_subsets : Sp := fun vs H Q _ => ∃ (c : Addr) (rs : List Role) (ws : List V), vs = [.ref c] ∧ H c = some (.lst ws) ∧ DVs H (rs.map eR) ws ∧ rs.length ≤ 10 ∧ ∀ H' p qs, L2.Same H H' → H' p = some (.lst qs) → DVs H' ((subs rs).map eRow) qs → Q (.ref p) H'
section
variable {X : Cx} {K : PySem.W.Frag}
theorem op_catAK (h : X.K = K) : OpR X (binaryOp .Add) (rCatA K) := h ▸ op_catA
end
/-- what made_from has found: F -/
structure Found (S : Stg) (o : Nat) (W : List Role) (H : Hp) (p : Addr) (F : List Role) (H' : Hp) : Prop where
  same : L2.Same H H'
  new : H p = none
  at_ : ∃ fs, H' p = some (.lst fs) ∧ DVs H' (F.map eR) fs
  nd : F.Nodup
  sub : ∀ r ∈ F, r ∈ W
  der : ∀ r ∈ F, Der S o W r
  free : ∀ r ∈ W, r ∉ S.fx → r ∈ F
theorem nodup_le : ∀ {F W : List Role}, F.Nodup → (∀ r ∈ F, r ∈ W) → F.length ≤ W.length
  | [], _, _, _ => Nat.zero_le _
  | x :: F, W, h, s => by
    obtain ⟨h1, h2⟩ := List.nodup_cons.mp h
    have hx := s x List.mem_cons_self
    have ih := nodup_le (F := F) (W := W.erase x) h2 fun y hy => (List.mem_erase_of_ne fun e => h1 (by rw [← e]; exact hy)).mpr (s y (List.mem_cons_of_mem _ hy))
    have e := List.length_erase_of_mem hx
    have p := List.length_pos_of_mem hx
    rw [List.length_cons]
    omega
section
variable {P : Program} {w : World} {K : PySem.W.Frag} {mg : Str → Option Value} {base : Heap} {CP CS : Addr}
theorem sc_is_closed_under : FnScope ["setting", "owner", "some", "role", "body"] ["setting", "owner", "some"] (defScope t_is_closed_under) := ⟨rfl, rfl, rfl, by decide +kernel, rfl, by decide +kernel, by decide +kernel⟩
theorem ok_is_closed_under (T : Txt K mg CP CS) : C8.Cal P w K mg base 3 "is_closed_under" (sp_is_closed_under CP CS) [] := by
  have c_is_by := ok_is_by (P := P) (w := w) (base := base) T
  have p_grants := ok_P_grants (P := P) (w := w) (base := base) T
  have p_policy := ok_S_policy (P := P) (w := w) (base := base) T
  have p_kept := ok_S_kept (P := P) (w := w) (base := base) T
  refine cal_of T.d_is_closed_under sc_is_closed_under (fun _ _ _ _ _ _ us hl => match us, hl with | [_, _, _], _ => rfl) (fun vs H Q E h => ?_) (fun f cdv A outer s H vs Q E hr h => ?_)
  · obtain ⟨a, S, o, c, W, ws, rfl, _⟩ := h
    rfl
  · obtain ⟨a, S, o, c, W, ws, rfl, stg, ew, dw, q⟩ := h
    refine ⟨_, (pss_cons (ps_for PassesOwn.never rfl (pi_tup (pe_pp p_grants hr (by decide) (pe_pp p_policy hr (by decide) (pv 0)))) (pg_two (K := K) (i := 3) (j := 4) rfl rfl sc_is_closed_under.nd rfl rfl (by first | exact Or.inl rfl | exact Or.inr rfl) (by first | exact Or.inl rfl | exact Or.inr rfl) (by first | exact Or.inl rfl | exact Or.inr rfl) (by first | exact Or.inl rfl | exact Or.inr rfl)) (pss_one (ps_if (PW.pt (pw_and (pt_cmpR (op_inN hr.units) (pv 3) (pe_pp p_kept hr (by decide) (pv 0)) (by with_unfolding_all rfl)) (pw_and (pt_cmpR (op_notInN hr.units) (pv 3) (pv 2) (by with_unfolding_all rfl)) (pw_and1 (pt_val (C8.pe_c c_is_by hr (by decide) (by rfl) (pa_cons (pv 4) (pa_cons (pv 1) (pa_cons (pv 2) pa_nil))))))))) (pss_one (ps_ret pe_bl)) pss_nil)))
      (pss_one (ps_ret pe_bl))), ?_⟩
    refine ⟨_, rfl, rd_policy stg fun p pol => rd_grants pol fun g gws eg dg => ⟨_, rfl, ⟨_, .of eg⟩, for_tup (xs := gws) (fun i σ H' => ∃ x y, σ = [some (.ref a), some (.int (o : Nat)), some (.ref c), x, y] ∧ L2.Same H H' ∧ (S.gs.take i).any (opens S o W) = false) ⟨_, _, rfl, Same.refl H, rfl⟩ (fun i σ H' _ ⟨_, _, _, s, _⟩ => .of (s _ _ eg)) ?_ ?_⟩⟩
    · rintro i x σ H1 hx ⟨_, _, rfl, s1, none⟩
      obtain ⟨gr, hg, dgr⟩ := dvsG dg hx
      obtain ⟨t, y, z, rfl, et, dy, dz⟩ := dG (dgr.mono (.of_same s1))
      have step : ∀ H2, L2.Same H H2 → opens S o W gr = false → ∃ x y', ([some (.ref a), some (.int (o : Nat)), some (.ref c), some y, some z] : L2.St) = [some (.ref a), some (.int (o : Nat)), some (.ref c), x, y'] ∧ L2.Same H H2 ∧ (S.gs.take (i + 1)).any (opens S o W) = false := fun H2 s2 e => ⟨_, _, rfl, s2, by
        rw [take_snoc hg, List.any_append, none]
        simp [e]⟩
      refine ⟨_, _, rfl, .of et, rfl, _, _, rfl, _, _, rfl, rfl, _, rfl, _, rfl, rd_kept (stg.same s1) fun f fs ef df => ⟨eR gr.1, S.kp.map eR, f, fs, dy, rfl, .inr (.of ef), df, dep_eR _, _, rfl, ?_⟩⟩
      rw [show (if false = true then !decide (eR gr.1 ∈ S.kp.map eR) else decide (eR gr.1 ∈ S.kp.map eR)) = decide (gr.1 ∈ S.kp) from decide_eq_decide.mpr memR]
      by_cases hk : gr.1 ∈ S.kp
      · rw [decide_eq_true hk]
        refine ⟨_, rfl, _, rfl, eR gr.1, W.map eR, c, ws, dy, rfl, (ew.same s1).sq, dw.mono (.of_same s1), dep_eR _, _, rfl, ?_⟩
        rw [show (if true = true then !decide (eR gr.1 ∈ W.map eR) else decide (eR gr.1 ∈ W.map eR)) = !decide (gr.1 ∈ W) from congrArg not (decide_eq_decide.mpr memR)]
        by_cases hw : gr.1 ∈ W
        · rw [decide_eq_true hw]
          exact step _ s1 (by simp [opens, hw])
        · rw [decide_eq_false hw]
          refine ⟨_, rfl, _, rfl, _, rfl, gr.2, o, z, c, W, ws, rfl, dz, ew.same s1, dw.mono (.of_same s1), fun H2 s2 => ⟨_, rfl, ?_⟩⟩
          refine ite2 (fun hb => ?_) (fun hb => ?_)
          · have e : closedB S o W = false := by
              unfold closedB
              rw [List.any_eq_true.mpr ⟨gr, List.mem_of_getElem? hg, by simp [opens, hk, hw, hb]⟩]
              rfl
            have z := q _ (s1.trans s2)
            rw [e] at z
            exact z
          · exact step _ (s1.trans s2) (by simp [opens, hb])
      · rw [decide_eq_false hk]
        exact step _ s1 (by simp [opens, hk])
    · rintro σ H1 ⟨_, _, rfl, s1, none⟩
      have len : gws.length = S.gs.length := by rw [← dg.len, List.length_map]
      rw [len, List.take_length] at none
      have e : closedB S o W = true := by
        unfold closedB
        rw [none]
        rfl
      have z := q _ s1
      rw [e] at z
      exact z
theorem sc_made_from : FnScope ["setting", "owner", "some", "found", "going", "role", "body"] ["setting", "owner", "some"] (defScope t_made_from) := ⟨rfl, rfl, rfl, by decide +kernel, rfl, by decide +kernel, by decide +kernel⟩
theorem ok_made_from (T : Txt K mg CP CS) : C8.Cal P w K mg base 3 "made_from" (sp_made_from CP CS) [] := by
  have c_is_by := ok_is_by (P := P) (w := w) (base := base) T
  have p_grants := ok_P_grants (P := P) (w := w) (base := base) T
  have p_policy := ok_S_policy (P := P) (w := w) (base := base) T
  have p_fixed := ok_S_fixed (P := P) (w := w) (base := base) T
  refine cal_of T.d_made_from sc_made_from (fun _ _ _ _ _ _ us hl => match us, hl with | [_, _, _], _ => rfl) (fun vs H Q E h => ?_) (fun f cdv A outer s H vs Q E hr h => ?_)
  · obtain ⟨a, S, o, c, W, ws, rfl, _⟩ := h
    rfl
  · obtain ⟨a, S, o, c, W, ws, rfl, stg, ew, dw, nd, few, q⟩ := h
    refine ⟨_, (pss_cons (ps_par (i := 3) (j := 4) rfl sc_made_from.nd rfl rfl (by decide) rfl rfl (pa_cons (pe_lc rfl sc_made_from.nd (pi_tup (pv 2)) (blkOk_by (own := [("role", 5)]) (by show blkC ["setting", "owner", "some", "found", "going", "role", "body"] (defScope t_made_from) _ _ = true; decide +kernel)) (fun _ _ _ _ _ => (pg_name (i := 5) sc_made_from.nd rfl (by first | exact Or.inl rfl | exact Or.inr rfl))) (fun _ _ _ _ _ => (pts_one (pt_cmpR (op_notInK (K := K) rfl hr.units) (pv 5) (pe_pp p_fixed hr (by decide) (pv 0)) (by with_unfolding_all rfl)))) (fun _ _ _ _ _ => (pv 5))) (pa_cons pe_bl pa_nil)) rfl)
      (pss_cons (ps_while PassesOwn.never (pt_val (pv 4)) (pss_cons (ps_set (i := 4) sc_made_from.nd rfl (Or.inl rfl) pe_bl)
      (pss_one (ps_for PassesOwn.never rfl (pi_tup (pe_pp p_grants hr (by decide) (pe_pp p_policy hr (by decide) (pv 0)))) (pg_two (K := K) (i := 5) (j := 6) rfl rfl sc_made_from.nd rfl rfl (by first | exact Or.inl rfl | exact Or.inr rfl) (by first | exact Or.inl rfl | exact Or.inr rfl) (by first | exact Or.inl rfl | exact Or.inr rfl) (by first | exact Or.inl rfl | exact Or.inr rfl)) (pss_one (ps_if (PW.pt (pw_and (pt_cmpR (op_inN hr.units) (pv 5) (pv 2) (by with_unfolding_all rfl)) (pw_and (pt_cmpR (op_notInN hr.units) (pv 5) (pv 3) (by with_unfolding_all rfl)) (pw_and1 (pt_val (C8.pe_c c_is_by hr (by decide) (by rfl) (pa_cons (pv 6) (pa_cons (pv 1) (pa_cons (pv 3) pa_nil))))))))) (pss_cons (ps_expr (pe_bm PySem.F.plainAttrs_list PySem.F.slot_list_append PySem.F.type_list_append mt_append (pv 3) (pa_cons (pv 5) pa_nil)))
      (pss_one (ps_set (i := 4) sc_made_from.nd rfl (Or.inl rfl) pe_bl))) pss_nil))))))
      (pss_one (ps_ret (pv 3))))), ?_⟩
    refine ⟨_, rfl, c, rfl, ⟨_, .of ew⟩, fun D hD => lc_tup (xs := ws) (fun i H' => L2.Same H H' ∧ H D = none ∧ ∃ fs, H' D = some (.lst fs) ∧ DVs H' (((W.take i).filter fun r => !decide (r ∈ S.fx)).map eR) fs) ⟨same_upd hD, hD, [], upd_same, .nil⟩ (fun i H' _ t => .of (t.1 _ _ ew)) ?_ ?_⟩
    · rintro i x H1 hx ⟨s1, _, fs, ef, df⟩
      obtain ⟨r, hr, dr⟩ := dvsR dw hx
      have hi := (List.getElem?_eq_some_iff.mp hr).1
      refine ⟨rfl, _, rfl, _, rfl, rd_fixed (stg.same s1) fun f gs eg dg => ⟨eR r, S.fx.map eR, f, gs, dr.mono (.of_same s1), rfl, .inr (.of eg), dg, dep_eR _, _, rfl, ?_⟩⟩
      rw [show (if true = true then !decide (eR r ∈ S.fx.map eR) else decide (eR r ∈ S.fx.map eR)) = !decide (r ∈ S.fx) from congrArg not (decide_eq_decide.mpr memR)]
      refine ite2 (fun hf => ?_) (fun hf => ?_)
      · have lf : fs.length ≤ 64 := by
          rw [← df.len, List.length_map]
          have := List.length_filter_le (fun r => !decide (r ∈ S.fx)) (W.take i)
          rw [List.length_take] at this
          omega
        have tp := tk_put (o := .lst (fs ++ [x])) ef
        refine ⟨_, rfl, fs, ef, by rw [sizeLine_eq]; omega, sUp s1 hD, hD, _, upd_same, ?_⟩
        rw [take_snoc hr, List.filter_append, List.map_append, List.filter_cons_of_pos (by exact hf)]
        exact (df.mono tp).snoc ((dr.mono (.of_same s1)).mono tp)
      · refine ⟨s1, hD, fs, ef, ?_⟩
        rw [take_snoc hr, List.filter_append, List.filter_cons_of_neg (by exact hf), List.filter_nil, List.append_nil]
        exact df
    · rintro H1 ⟨s1, hD0, fs, ef, df⟩
      have len : ws.length = W.length := by rw [← dw.len, List.length_map]
      rw [len, List.take_length] at df
      have f0 : Found S o W H D (W.filter fun r => !decide (r ∈ S.fx)) H1 := by
        refine ⟨s1, hD0, ⟨fs, ef, df⟩, nd.filter _, fun r hr => (List.mem_filter.mp hr).1, fun r hr => ?_, fun r hr hf => List.mem_filter.mpr ⟨hr, by simp [hf]⟩⟩
        obtain ⟨h1, h2⟩ := List.mem_filter.mp hr
        exact .free h1 (by simpa using h2)
      refine ⟨_, _, rfl, while_by (fun σ H' => ∃ F g x y, σ = [some (.ref a), some (.int (o : Nat)), some (.ref c), some (.ref D), some (.bl g), x, y] ∧ Found S o W H D F H' ∧ (g = false → S.gs.any (adds o W F) = false))
        (fun σ H' => match σ with
          | _ :: _ :: _ :: _ :: some (.bl g) :: _ => (if g then 1 else 0) + 2 * (W.length - (match H' D with | some (.lst fs) => fs.length | _ => 0))
          | _ => 0) ⟨_, true, _, _, rfl, f0, fun z => by cases z⟩ ?_ ?_⟩
      · rintro σ H2 ⟨F, g, x, y, rfl, fo, done⟩
        refine ⟨_, rfl, g, rfl, ?_⟩
        obtain ⟨fs2, e2, d2⟩ := fo.at_
        have lF : fs2.length = F.length := by rw [← d2.len, List.length_map]
        cases g with
        | false =>
          refine iteF ⟨_, rfl, q H2 D F fs2 fo.same e2 d2 fo.nd fun r => ⟨fo.der r, fun hr => ?_⟩⟩
          have no := List.any_eq_false.mp (done rfl)
          refine hr.least (P := fun r => r ∈ F) (fun r h1 h2 => fo.free r h1 h2) fun r b hg hw hb => ?_
          by_cases hf : r ∈ F
          · exact hf
          · exact absurd (by simp [adds, hw, hf, byBb_iff.mpr hb]) (no (r, b) hg)
        | true =>
          refine iteT ⟨_, rfl, rd_policy (stg.same fo.same) fun p pol => rd_grants pol fun g gws eg dg => ⟨_, rfl, ⟨_, .of eg⟩, for_tup (xs := gws) (fun i σ H' => ∃ F' g' x y, σ = [some (.ref a), some (.int (o : Nat)), some (.ref c), some (.ref D), some (.bl g'), x, y] ∧ Tk H2 H' ∧ Found S o W H D F' H' ∧ F.length ≤ F'.length ∧ (g' = true → F.length < F'.length) ∧ (g' = false → F' = F ∧ (S.gs.take i).any (adds o W F) = false))
            ⟨F, false, _, _, rfl, Tk.refl _, fo, Nat.le_refl _, (fun z => by cases z), fun _ => ⟨rfl, rfl⟩⟩ (fun i σ H' _ ⟨_, _, _, _, _, t, _⟩ => .of (t _ _ eg)) ?_ ?_⟩⟩
          · rintro i v σ H3 hv ⟨F', g', x', y', rfl, t3, fo3, le, hgt, hgf⟩
            obtain ⟨gr, hg, dgr⟩ := dvsG dg hv
            obtain ⟨t, u, z, rfl, et, du, dz⟩ := dG (dgr.mono t3)
            obtain ⟨fs3, e3, d3⟩ := fo3.at_
            have lF3 : fs3.length = F'.length := by rw [← d3.len, List.length_map]
            have leW := nodup_le fo3.nd fo3.sub
            have skip : ∀ H4, L2.Same H3 H4 → adds o W F' gr = false → ∃ F'' g'' x y, ([some (.ref a), some (.int (o : Nat)), some (.ref c), some (.ref D), some (.bl g'), some u, some z] : L2.St) = [some (.ref a), some (.int (o : Nat)), some (.ref c), some (.ref D), some (.bl g''), x, y] ∧ Tk H2 H4 ∧ Found S o W H D F'' H4 ∧ F.length ≤ F''.length ∧ (g'' = true → F.length < F''.length) ∧ (g'' = false → F'' = F ∧ (S.gs.take (i + 1)).any (adds o W F) = false) := fun H4 s4 ha =>
              ⟨F', g', _, _, rfl, t3.trans (.of_same s4), ⟨fo3.same.trans s4, fo3.new, ⟨fs3, s4 _ _ e3, d3.mono (.of_same s4)⟩, fo3.nd, fo3.sub, fo3.der, fo3.free⟩, le, hgt, fun z => ⟨(hgf z).1, by
                rw [take_snoc hg, List.any_append, (hgf z).2, ← (hgf z).1]
                simp [ha]⟩⟩
            refine ⟨_, _, rfl, .of et, rfl, _, _, rfl, _, _, rfl, rfl, _, rfl, _, rfl, eR gr.1, W.map eR, c, ws, du, rfl, .inr (.of (fo3.same _ _ ew)), dw.mono (.of_same fo3.same), dep_eR _, _, rfl, ?_⟩
            rw [show (if false = true then !decide (eR gr.1 ∈ W.map eR) else decide (eR gr.1 ∈ W.map eR)) = decide (gr.1 ∈ W) from decide_eq_decide.mpr memR]
            by_cases hw : gr.1 ∈ W
            · rw [decide_eq_true hw]
              refine ⟨_, rfl, _, rfl, eR gr.1, F'.map eR, D, fs3, du, rfl, .inl (.of e3), d3, dep_eR _, _, rfl, ?_⟩
              rw [show (if true = true then !decide (eR gr.1 ∈ F'.map eR) else decide (eR gr.1 ∈ F'.map eR)) = !decide (gr.1 ∈ F') from congrArg not (decide_eq_decide.mpr memR)]
              by_cases hf : gr.1 ∈ F'
              · rw [decide_eq_true hf]
                exact skip _ (Same.refl _) (by simp [adds, hf])
              · rw [decide_eq_false hf]
                refine ⟨_, rfl, _, rfl, _, rfl, gr.2, o, z, D, F', fs3, rfl, dz, .inl e3, d3, fun H4 s4 => ⟨_, rfl, ?_⟩⟩
                refine ite2 (fun hb => ?_) (fun hb => ?_)
                · have e4 := s4 _ _ e3
                  have tp := tk_put (o := .lst (fs3 ++ [u])) e4
                  refine ⟨_, rfl, .inl ⟨rfl, _, .of e4⟩, _, rfl, D, fs3, u, rfl, rfl, e4, by rw [lF3, sizeLine_eq]; omega, ?_⟩
                  have nd' : (F' ++ [gr.1]).Nodup := List.nodup_append.mpr ⟨fo3.nd, by simp, fun x hx y hy e => hf (by rw [← List.mem_singleton.mp hy, ← e]; exact hx)⟩
                  refine ⟨F' ++ [gr.1], true, _, _, rfl, (t3.trans (.of_same s4)).trans tp, ⟨sUp (fo3.same.trans s4) fo3.new, fo3.new, ⟨_, upd_same, ?_⟩, nd', fun r hr => ?_, fun r hr => ?_, fun r h1 h2 => List.mem_append_left _ (fo3.free r h1 h2)⟩, ?_, fun _ => ?_, fun z => by cases z⟩
                  · rw [List.map_append]
                    exact ((d3.mono (.of_same s4)).snoc (du.mono (.of_same s4))).mono tp
                  · rcases List.mem_append.mp hr with hr | hr
                    · exact fo3.sub r hr
                    · rw [List.mem_singleton.mp hr]
                      exact hw
                  · rcases List.mem_append.mp hr with hr | hr
                    · exact fo3.der r hr
                    · rw [List.mem_singleton.mp hr]
                      refine Der.by (b := gr.2) (List.mem_of_getElem? hg) hw (byB_mono (fun s hs => fo3.der s hs) (byBb_iff.mp hb))
                  · rw [List.length_append]
                    omega
                  · rw [List.length_append, List.length_singleton]
                    omega
                · exact skip _ s4 (by simp [adds, hb])
            · rw [decide_eq_false hw]
              exact skip _ (Same.refl _) (by simp [adds, hw])
          · rintro σ H3 ⟨F', g', x', y', rfl, t3, fo3, le, hgt, hgf⟩
            have len2 : gws.length = S.gs.length := by rw [← dg.len, List.length_map]
            obtain ⟨fs3, e3, d3⟩ := fo3.at_
            have lF3 : fs3.length = F'.length := by rw [← d3.len, List.length_map]
            have leW := nodup_le fo3.nd fo3.sub
            rw [len2, List.take_length] at hgf
            refine ⟨⟨F', g', _, _, rfl, fo3, fun z => (hgf z).1 ▸ (hgf z).2⟩, ?_⟩
            show (if g' = true then 1 else 0) + 2 * (W.length - (match H3 D with | some (.lst fs) => fs.length | _ => 0)) < (if true = true then 1 else 0) + 2 * (W.length - (match H2 D with | some (.lst fs) => fs.length | _ => 0))
            rw [e3, e2]
            show (if g' = true then 1 else 0) + 2 * (W.length - fs3.length) < (if true = true then 1 else 0) + 2 * (W.length - fs2.length)
            rw [lF3, lF, if_pos rfl]
            cases g' with
            | true =>
              have := hgt rfl
              rw [if_pos rfl]
              omega
            | false =>
              rw [if_neg Bool.false_ne_true, (hgf rfl).1]
              omega
      · rintro σ H2 Q1 Q2 imp ⟨v, hv, k, e, h⟩
        exact ⟨v, hv, k, e, imp _ _ h⟩
end
end G53


/-! The walk: subsets, wholes. -/
namespace G53
open PySem PySem.Spec PyProof.Rows L2

open Classical in
noncomputable def wholeB (S : Stg) (o : Nat) (W : List Role) : Bool := decide (Whole S o W)
open Classical in
theorem wholeB_iff {S : Stg} {o : Nat} {W : List Role} : wholeB S o W = true ↔ Whole S o W := by
  unfold wholeB
  exact decide_eq_true_iff
noncomputable def wholesL (S : Stg) (o : Nat) : List (List Role) := (subs (told S)).filter (wholeB S o)
theorem Der.mem {S : Stg} {o : Nat} {W : List Role} {r : Role} (d : Der S o W r) : r ∈ W := by
  cases d <;> assumption
theorem nodup_eq {F W : List Role} (hF : F.Nodup) (hW : W.Nodup) (s : ∀ r ∈ F, r ∈ W) : F.length = W.length ↔ ∀ r ∈ W, r ∈ F := by
  constructor
  · intro e r hr
    by_cases hf : r ∈ F
    · exact hf
    · have q := nodup_le (W := W.erase r) hF fun x hx => (List.mem_erase_of_ne fun z => hf (by rw [← z]; exact hx)).mpr (s x hx)
      have := List.length_erase_of_mem hr
      have := List.length_pos_of_mem hr
      omega
  · intro h
    exact Nat.le_antisymm (nodup_le hF s) (nodup_le hW h)
theorem asc_nodup {l : List Role} (h : l.Pairwise fun r s => rR r < rR s) : l.Nodup := h.imp fun {a b} q e => by
  rw [e] at q
  exact Nat.lt_irrefl _ q
theorem subs_few {l : List Role} (h : l.length ≤ 10) : (subs l).length ≤ 1024 := by
  rw [subs_len]
  exact Nat.le_trans (Nat.pow_le_pow_right (by decide : 2 > 0) h) (by decide)
theorem subs_ne (l : List Role) : 0 < (subs l).length := by
  rw [subs_len]
  exact Nat.pow_pos (by decide)
theorem sub_asc {l W : List Role} (h : l.Pairwise fun r s => rR r < rR s) (s : W.Sublist l) : W.Pairwise fun r s => rR r < rR s := h.sublist s
def sp_wholes (CP CS : Addr) : Sp := fun vs H Q _ => ∃ (a : Addr) (S : Stg) (o : Nat), vs = [.ref a, .int (o : Nat)] ∧ StgD CP CS H a S ∧ OkS S ∧ (told S).length ≤ 10 ∧ ∀ (H' : Hp) (p : Addr) (qs : List V), L2.Same H H' → H p = none → H' p = some (.lst qs) → DVs H' ((wholesL S o).map eRow) qs → Q (.ref p) H'
/-- the rows with one role more, the first k of them, in a new list -/
def Longer (H1 : Hp) (D : Addr) (r : Role) (Ws : List (List Role)) (k : Nat) (H2 : Hp) : Prop := L2.Same H1 H2 ∧ H1 D = none ∧ ∃ us, H2 D = some (.lst us) ∧ DVs H2 ((Ws.take k).map fun W => eRow (W ++ [r])) us
theorem Longer.step {H1 H2 H4 : Hp} {D : Addr} {r : Role} {Ws : List (List Role)} {k : Nat} {W : List Role} {y : V} (h : Longer H1 D r Ws k H2) (hW : Ws[k]? = some W) (few : Ws.length ≤ 2000) (s : L2.Same H2 H4) (d : DV H4 (eRow (W ++ [r])) y) :
    ∃ acc, H4 D = some (.lst acc) ∧ acc.length < sizeLine ∧ Longer H1 D r Ws (k + 1) (upd H4 D (.lst (acc ++ [y]))) := by
  obtain ⟨s1, hD, us, e, du⟩ := h
  have e4 := s _ _ e
  have tp := tk_put (o := .lst (us ++ [y])) e4
  refine ⟨us, e4, ?_, sUp (s1.trans s) hD, hD, _, upd_same, ?_⟩
  · rw [← du.len, List.length_map, List.length_take, sizeLine_eq]
    omega
  · rw [take_snoc hW, List.map_append]
    exact ((du.mono (.of_same s)).snoc d).mono tp
section
variable {P : Program} {w : World} {K : PySem.W.Frag} {mg : Str → Option Value} {base : Heap} {CP CS : Addr}
theorem sc_subsets : FnScope ["roles", "found", "role", "row"] ["roles"] (defScope t_subsets) := ⟨rfl, rfl, rfl, by decide +kernel, rfl, by decide +kernel, by decide +kernel⟩
theorem ok_subsets (T : Txt K mg CP CS) : C8.Cal P w K mg base 1 "subsets" sp_subsets [] := by
  refine cal_of T.d_subsets sc_subsets (fun _ _ _ _ _ _ us hl => match us, hl with | [_], _ => rfl) (fun vs H Q E h => ?_) (fun f cdv A outer s H vs Q E hr h => ?_)
  · obtain ⟨c, rs, ws, rfl, _⟩ := h
    rfl
  · obtain ⟨c, rs, ws, rfl, ec, dc, few, q⟩ := h
    refine ⟨_, (pss_cons (ps_set (i := 1) sc_subsets.nd rfl (Or.inl rfl) (pe_lst (pa_cons (pe_tup pa_nil) pa_nil)))
      (pss_cons (ps_for PassesOwn.never rfl (pi_list (pv 0)) (pg_name (i := 2) sc_subsets.nd rfl (by first | exact Or.inl rfl | exact Or.inr rfl)) (pss_one (ps_set (i := 1) sc_subsets.nd rfl (Or.inl rfl) (pe_op op_cat (pv 1) (pe_lc rfl sc_subsets.nd (pi_list (pv 1)) (blkOk_by (own := [("row", 3)]) (by show blkC ["roles", "found", "role", "row"] (defScope t_subsets) _ _ = true; decide +kernel)) (fun _ _ _ _ _ => (pg_name (i := 3) sc_subsets.nd rfl (by first | exact Or.inl rfl | exact Or.inr rfl))) (fun _ _ _ _ _ => pts_nil) (fun _ _ _ _ _ => (pe_op (op_catAK (K := K) rfl) (pv 3) (pe_tup (pa_cons (pv 2) pa_nil)))))))))
      (pss_one (ps_ret (pv 1))))), ?_⟩
    refine ⟨by decide, fun p0 hp0 => ⟨(by show 1 ≤ sizeLine; decide), fun p hp => ?_⟩⟩
    have s0 : L2.Same H (upd (upd H p0 (.tup [])) p (.lst [.ref p0])) := sNew (same_upd hp0) hp
    have n0 : p0 ≠ p := ne_of_none (upd_same (H := H)) hp
    refine ⟨_, rfl, c, rfl, ⟨_, .of (s0 _ _ ec)⟩, for_list (xs := ws) (fun i σ H' => ∃ p qs x, σ = [some (.ref c), some (.ref p), x, none] ∧ L2.Same H H' ∧ H' p = some (.lst qs) ∧ DVs H' ((subs (rs.take i)).map eRow) qs) ⟨p, _, _, rfl, s0, upd_same, .cons (.tup (by rw [upd_ne n0, upd_same]) .nil) .nil⟩ (fun i σ H' _ ⟨_, _, _, _, s, _⟩ => .of (s _ _ ec)) ?_ ?_⟩
    · rintro i x σ H1 hx ⟨p, qs, _, rfl, s1, ep, dp⟩
      obtain ⟨r, hr, dr⟩ := dvsR dc hx
      have hi := (List.getElem?_eq_some_iff.mp hr).1
      have len : (subs (rs.take i)).length ≤ 1024 := subs_few (by rw [List.length_take]; omega)
      have lq : qs.length ≤ 1024 := by rw [← dp.len, List.length_map]; exact len
      refine ⟨_, rfl, _, rfl, p, rfl, ⟨_, .of ep⟩, fun D hD => lc_list (xs := qs) (fun k H' => Longer H1 D r (subs (rs.take i)) k H') ⟨same_upd hD, hD, [], upd_same, .nil⟩ (fun k H' _ t => .of (t.1 _ _ ep)) ?_ ?_⟩
      · rintro k y H2 hy t
        obtain ⟨W, hW, dW⟩ := dvsRow dp hy
        obtain ⟨b, bs, rfl, eb, db⟩ := dRow (dW.mono (.of_same t.1))
        have dr2 : DV H2 (eR r) x := dr.mono (.of_same (s1.trans t.1))
        refine ⟨rfl, _, rfl, _, rfl, (by show 1 ≤ sizeLine; decide), fun z hz => ?_⟩
        have s2 : L2.Same H2 (upd H2 z (.tup [x])) := same_upd hz
        have lb : bs.length ≤ 10 := by
          have := (subs_sub _ _ (List.mem_of_getElem? hW)).length_le
          rw [← db.len, List.length_map]
          rw [List.length_take] at this
          omega
        refine ⟨b, z, bs, [x], rfl, rfl, .of (s2 _ _ eb), .of upd_same, by rw [sizeLine_eq, List.length_singleton]; omega, fun e => ?_, (fun _ e => by cases e), fun ne _ z2 hz2 => ?_⟩
        · have eW : W = [] := by
            have := db.len
            rw [e, List.length_map] at this
            exact List.length_eq_zero_iff.mp this
          subst eW
          exact t.step hW (by omega) s2 (.tup upd_same (.cons (dr2.mono (.of_same s2)) .nil))
        · have s3 := sNew (o := .tup (bs ++ [x])) s2 hz2
          refine t.step hW (by omega) s3 (.tup upd_same ?_)
          rw [List.map_append]
          exact (db.mono (.of_same s3)).snoc (dr2.mono (.of_same s3))
      · rintro H2 ⟨s2, hD1, us, eD, dD⟩
        have lus : qs.length = (subs (rs.take i)).length := by rw [← dp.len, List.length_map]
        rw [lus, List.take_length] at dD
        have lu : us.length ≤ 1024 := by rw [← dD.len, List.length_map]; exact len
        refine ⟨p, D, qs, us, rfl, rfl, s2 _ _ ep, eD, by rw [sizeLine_eq]; omega, fun p' hp' => ?_⟩
        have s3 := sNew (o := .lst (qs ++ us)) s2 hp'
        refine ⟨p', _, _, rfl, s1.trans s3, upd_same, ?_⟩
        rw [take_snoc hr, subs_snoc, List.map_append, List.map_map]
        exact (dp.mono (.of_same s3)).app (dD.mono (tk_upd hp'))
    · rintro σ H1 ⟨p, qs, _, rfl, s1, ep, dp⟩
      have len : ws.length = rs.length := by rw [← dc.len, List.length_map]
      rw [len, List.take_length] at dp
      exact ⟨_, rfl, q H1 p qs s1 ep dp⟩
theorem sc_wholes : FnScope ["setting", "owner", "found", "some"] ["setting", "owner"] (defScope t_wholes) := ⟨rfl, rfl, rfl, by decide +kernel, rfl, by decide +kernel, by decide +kernel⟩
theorem ok_wholes (T : Txt K mg CP CS) : C8.Cal P w K mg base 4 "wholes" (sp_wholes CP CS) [] := by
  have c_subsets := ok_subsets (P := P) (w := w) (base := base) T
  have c_told_roles := ok_told_roles (P := P) (w := w) (base := base) T
  have c_is_closed_under := ok_is_closed_under (P := P) (w := w) (base := base) T
  have c_made_from := ok_made_from (P := P) (w := w) (base := base) T
  have p_policy := ok_S_policy (P := P) (w := w) (base := base) T
  refine cal_of T.d_wholes sc_wholes (fun _ _ _ _ _ _ us hl => match us, hl with | [_, _], _ => rfl) (fun vs H Q E h => ?_) (fun f cdv A outer s H vs Q E hr h => ?_)
  · obtain ⟨a, S, o, rfl, _⟩ := h
    rfl
  · obtain ⟨a, S, o, rfl, stg, ok, few, q⟩ := h
    have tasc := told_asc (S := S) ok.l8
    refine ⟨_, (pss_cons (ps_set (i := 2) sc_wholes.nd rfl (Or.inl rfl) (pe_lst pa_nil))
      (pss_cons (ps_for PassesOwn.never rfl (pi_list (C8.pe_c c_subsets hr (by decide) (by rfl) (pa_cons (C8.pe_c c_told_roles hr (by decide) (by rfl) (pa_cons (pe_pp p_policy hr (by decide) (pv 0)) pa_nil)) pa_nil))) (pg_name (i := 3) sc_wholes.nd rfl (by first | exact Or.inl rfl | exact Or.inr rfl)) (pss_one (ps_if (PW.pt (pw_and (pt_val (C8.pe_c c_is_closed_under hr (by decide) (by rfl) (pa_cons (pv 0) (pa_cons (pv 1) (pa_cons (pv 3) pa_nil))))) (pw_and1 (pt_cmpR op_eq (pe_callB call_len_seq (by rfl) T.b_len bo_len (pa_cons (C8.pe_c c_made_from hr (by decide) (by rfl) (pa_cons (pv 0) (pa_cons (pv 1) (pa_cons (pv 3) pa_nil)))) pa_nil)) (pe_callB call_len_seq (by rfl) T.b_len bo_len (pa_cons (pv 3) pa_nil)) (nomark _))))) (pss_one (ps_expr (pe_bm PySem.F.plainAttrs_list PySem.F.slot_list_append PySem.F.type_list_append mt_append (pv 2) (pa_cons (pv 3) pa_nil)))) pss_nil)))
      (pss_one (ps_ret (pv 2))))), ?_⟩
    refine ⟨by decide, fun c hc => ?_⟩
    have s0 : L2.Same H (upd H c (.lst [])) := same_upd hc
    refine ⟨_, rfl, rd_policy (stg.same s0) fun p pol => ⟨p, S, rfl, pol, ok.n8, ok.l8, ok.few, ok.gs, fun H1 b us s1 eb db => ⟨b, told S, us, rfl, eb, db, few, fun H2 d qs s2 ed dd => ?_⟩⟩⟩
    have len : qs.length = (subs (told S)).length := by rw [← dd.len, List.length_map]
    have lens : (subs (told S)).length ≤ 1024 := subs_few few
    have e2 : H2 c = some (.lst []) := (s1.trans s2) _ _ upd_same
    have cd : c ≠ d ∨ qs = [] := by
      by_cases z : c = d
      · rw [← z, e2] at ed
        cases ed
        exact .inr rfl
      · exact .inl z
    have cd : c ≠ d := by
      rcases cd with z | z
      · exact z
      · rw [z] at len
        have := subs_ne (told S)
        rw [← len] at this
        exact absurd this (by simp)
    refine ⟨d, rfl, ⟨_, .of ed⟩, for_list (xs := qs) (fun i σ H' => ∃ us x, σ = [some (.ref a), some (.int (o : Nat)), some (.ref c), x] ∧ L2.Same H H' ∧ Tk H2 H' ∧ H' d = some (.lst qs) ∧ H' c = some (.lst us) ∧ DVs H' ((((subs (told S)).take i).filter (wholeB S o)).map eRow) us) ⟨[], _, rfl, (s0.trans s1).trans s2, Tk.refl _, ed, e2, .nil⟩ (fun i σ H' _ ⟨_, _, _, _, _, e, _⟩ => .of e) ?_ ?_⟩
    · rintro i x σ H3 hx ⟨us, _, rfl, s3, t3, ed3, ec3, dc3⟩
      obtain ⟨W, hW, dW⟩ := dvsRow dd hx
      obtain ⟨y, ys, rfl, ey, dy⟩ := dRow (dW.mono t3)
      have sub := subs_sub _ _ (List.mem_of_getElem? hW)
      have wnd := asc_nodup (sub_asc tasc sub)
      have lW := sub.length_le
      have luc : us.length ≤ 1024 := by
        rw [← dc3.len, List.length_map]
        have := List.length_filter_le (wholeB S o) ((subs (told S)).take i)
        rw [List.length_take] at this
        omega
      have skip : ∀ H4, L2.Same H3 H4 → wholeB S o W = false → ∃ us x, ([some (.ref a), some (.int (o : Nat)), some (.ref c), some (.ref y)] : L2.St) = [some (.ref a), some (.int (o : Nat)), some (.ref c), x] ∧ L2.Same H H4 ∧ Tk H2 H4 ∧ H4 d = some (.lst qs) ∧ H4 c = some (.lst us) ∧ DVs H4 ((((subs (told S)).take (i + 1)).filter (wholeB S o)).map eRow) us := fun H4 s4 hw =>
        ⟨us, _, rfl, s3.trans s4, t3.trans (.of_same s4), s4 _ _ ed3, s4 _ _ ec3, by
          rw [take_snoc hW, List.filter_append, List.filter_cons_of_neg (by rw [hw]; exact Bool.false_ne_true), List.filter_nil, List.append_nil]
          exact dc3.mono (.of_same s4)⟩
      refine ⟨_, rfl, _, rfl, _, rfl, a, S, o, y, W, ys, rfl, stg.same s3, .inr ey, dy, fun H4 s4 => ⟨_, rfl, ?_⟩⟩
      refine ite2 (fun hcl => ?_) (fun hcl => ?_)
      · refine ⟨_, rfl, _, rfl, _, rfl, a, S, o, y, W, ys, rfl, stg.same (s3.trans s4), s4 _ _ ey, dy.mono (.of_same s4), wnd, by omega, fun H5 z F fs s5 ez dz fnd fiff => ?_⟩
        have lF : fs.length = F.length := by rw [← dz.len, List.length_map]
        have lY : ys.length = W.length := by rw [← dy.len, List.length_map]
        have s35 := s4.trans s5
        refine ⟨z, fs, rfl, .inl (.of ez), _, rfl, y, ys, rfl, .inr (.of (s35 _ _ ey)), rfl, _, rfl, ?_⟩
        have key : F.length = W.length ↔ ∀ r ∈ W, Der S o W r := by
          rw [nodup_eq fnd wnd fun r hr => ((fiff r).mp hr).mem]
          exact ⟨fun h r hr => (fiff r).mp (h r hr), fun h r hr => (fiff r).mpr (h r hr)⟩
        refine ite2 (fun he => ?_) (fun he => ?_)
        · have he := of_decide_eq_true he
          have e5 : F.length = W.length := by
            injection he with he
            omega
          have hw : wholeB S o W = true := wholeB_iff.mpr ⟨closedB_iff.mp hcl, key.mp e5⟩
          have ec5 := s35 _ _ ec3
          have tp := tk_put (o := .lst (us ++ [.ref y])) ec5
          refine ⟨_, rfl, .inl ⟨rfl, _, .of ec5⟩, _, rfl, c, us, .ref y, rfl, rfl, ec5, by rw [sizeLine_eq]; omega, _, _, rfl, sUp (s3.trans s35) hc, (t3.trans (.of_same s35)).trans tp, ?_, upd_same, ?_⟩
          · rw [upd_ne cd.symm]
            exact s35 _ _ ed3
          · rw [take_snoc hW, List.filter_append, List.filter_cons_of_pos hw, List.filter_nil, List.map_append]
            exact ((dc3.mono (.of_same s35)).snoc (.tup (s35 _ _ ey) (dy.mono (.of_same s35)))).mono tp
        · refine skip _ s35 ?_
          cases hw : wholeB S o W with
          | false => rfl
          | true =>
            refine absurd ?_ he
            rw [lF, lY, key.mpr (wholeB_iff.mp hw).2]
            exact decide_eq_true rfl
      · refine skip _ s4 ?_
        cases hw : wholeB S o W with
        | false => rfl
        | true => exact absurd (closedB_iff.mpr (wholeB_iff.mp hw).1) hcl
    · rintro σ H3 ⟨us, _, rfl, s3, t3, ed3, ec3, dc3⟩
      rw [len, List.take_length] at dc3
      exact ⟨_, rfl, q H3 c us s3 hc ec3 dc3⟩
end
end G53


/-! The walk: cases. -/
namespace G53
open PySem PySem.Spec PyProof.Rows L2

/-- t + u of two tuples, told as one -/
def rCatU : R2 := fun x y H Q => ∃ a b xs ys, x = .ref a ∧ y = .ref b ∧ H a = some (.tup xs) ∧ H b = some (.tup ys) ∧ xs.length + ys.length ≤ sizeLine ∧ ∀ t H', L2.Same H H' → H' t = some (.tup (xs ++ ys)) → Q (.ref t) H'
theorem op_catU {X : Cx} : OpR X (binaryOp .Add) rCatU := by
  intro pins s σ H x y v u Q I rx ry h
  obtain ⟨a, b, xs, ys, rfl, rfl, ea, eb, z, q⟩ := h
  refine op_catA pins s σ H _ _ v u Q I rx ry ⟨a, b, xs, ys, rfl, rfl, .of ea, .of eb, z, fun e => ?_, fun _ e => ?_, fun _ _ p hp => q p _ (same_upd hp) upd_same⟩
  · subst e
    exact q b H (Same.refl H) eb
  · subst e
    exact q a H (Same.refl H) (by rw [List.append_nil]; exact ea)
/-- the roles among rs with p, the first k looked at, in a new list -/
def FilR (H : Hp) (D : Addr) (p : Role → Bool) (rs : List Role) (k : Nat) (H' : Hp) : Prop := L2.Same H H' ∧ H D = none ∧ ∃ fs, H' D = some (.lst fs) ∧ DVs H' (((rs.take k).filter p).map eR) fs
theorem FilR.nil {H : Hp} {D : Addr} {p : Role → Bool} {rs : List Role} (hD : H D = none) : FilR H D p rs 0 (upd H D (.lst [])) := ⟨same_upd hD, hD, [], upd_same, .nil⟩
theorem FilR.keep {H H1 H2 : Hp} {D : Addr} {p : Role → Bool} {rs : List Role} {k : Nat} {r : Role} {x : V} (h : FilR H D p rs k H1) (hr : rs[k]? = some r) (hp : p r = true) (few : rs.length ≤ 1000) (s : L2.Same H1 H2) (d : DV H2 (eR r) x) :
    ∃ acc, H2 D = some (.lst acc) ∧ acc.length < sizeLine ∧ FilR H D p rs (k + 1) (upd H2 D (.lst (acc ++ [x]))) := by
  obtain ⟨s1, hD, fs, e, df⟩ := h
  have e2 := s _ _ e
  have tp := tk_put (o := .lst (fs ++ [x])) e2
  refine ⟨fs, e2, ?_, sUp (s1.trans s) hD, hD, _, upd_same, ?_⟩
  · rw [← df.len, List.length_map, sizeLine_eq]
    have := List.length_filter_le p (rs.take k)
    rw [List.length_take] at this
    omega
  · rw [take_snoc hr, List.filter_append, List.filter_cons_of_pos hp, List.filter_nil, List.map_append]
    exact ((df.mono (.of_same s)).snoc d).mono tp
theorem FilR.skip {H H1 H2 : Hp} {D : Addr} {p : Role → Bool} {rs : List Role} {k : Nat} {r : Role} (h : FilR H D p rs k H1) (hr : rs[k]? = some r) (hp : p r = false) (s : L2.Same H1 H2) : FilR H D p rs (k + 1) H2 := by
  obtain ⟨s1, hD, fs, e, df⟩ := h
  refine ⟨s1.trans s, hD, fs, s _ _ e, ?_⟩
  rw [take_snoc hr, List.filter_append, List.filter_cons_of_neg (by rw [hp]; exact Bool.false_ne_true), List.filter_nil, List.append_nil]
  exact df.mono (.of_same s)
theorem FilR.done {H H1 : Hp} {D : Addr} {p : Role → Bool} {rs : List Role} {n : Nat} (h : FilR H D p rs n H1) (e : n = rs.length) : L2.Same H H1 ∧ H D = none ∧ ∃ fs, H1 D = some (.lst fs) ∧ DVs H1 ((rs.filter p).map eR) fs := by
  obtain ⟨s1, hD, fs, e2, df⟩ := h
  rw [e, List.take_length] at df
  exact ⟨s1, hD, fs, e2, df⟩
/-- small roles in order -/
def srt (l : List Role) : List Role := (allR 8 8).filter fun r => decide (r ∈ l)
theorem srt_asc (l : List Role) : (srt l).Pairwise fun r s => rR r < rR s := (allR_asc 8 (by decide) 8).filter _
theorem mem_srt {l : List Role} {r : Role} (h : ∀ r ∈ l, Sm r) : r ∈ srt l ↔ r ∈ l := by
  unfold srt
  rw [List.mem_filter, decide_eq_true_eq]
  exact ⟨fun z => z.2, fun z => ⟨mem_allR.mpr (h r z), z⟩⟩
def beside (S : Stg) (T sm : List Role) : List Role := sm.filter fun r => decide (r ∉ T) && decide (r ∉ S.fx)
abbrev Case := List Role × List Role
def caseOf (sm W M : List Role) : Case := (sm.filter (fun r => decide (r ∈ srt (W ++ M))), srt (W ++ M))
noncomputable def casesW (S : Stg) (sm W : List Role) : List Case := (subs (beside S (told S) sm)).map (caseOf sm W)
noncomputable def caseL (S : Stg) (o : Nat) (sm : List Role) : List Case := (wholesL S o).flatMap (casesW S sm)
abbrev eCase (c : Case) : NK := .tup [eRow c.1, eRow c.2]
theorem dCase {H : Hp} {c : Case} {v : V} (d : DV H (eCase c) v) : ∃ a x y, v = .ref a ∧ H a = some (.tup [x, y]) ∧ DV H (eRow c.1) x ∧ DV H (eRow c.2) y := by
  cases d with
  | tup e d =>
    cases d with
    | cons d1 d =>
      cases d with
      | cons d2 d =>
        cases d
        exact ⟨_, _, _, rfl, e, d1, d2⟩
def sp_cases (CP CS : Addr) : Sp := fun vs H Q _ => ∃ (a : Addr) (S : Stg) (o : Nat) (c : Addr) (sm : List Role) (ws : List V), vs = [.ref a, .int (o : Nat), .ref c] ∧ StgD CP CS H a S ∧ OkS S ∧ (told S).length ≤ 10 ∧ H c = some (.tup ws) ∧ DVs H (sm.map eR) ws ∧ Roles S.n S.l sm ∧ sm.length ≤ 2 ∧
  ∀ (H' : Hp) (p : Addr) (qs : List V), L2.Same H H' → H' p = some (.lst qs) → DVs H' ((caseL S o sm).map eCase) qs → Q (.ref p) H'
theorem len2 {α β : Type} (f : α → List β) (m : Nat) : ∀ (l : List α), (∀ x ∈ l, (f x).length ≤ m) → (l.flatMap f).length ≤ l.length * m
  | [], _ => by simp
  | x :: l, h => by
    rw [List.flatMap_cons, List.length_append, List.length_cons, Nat.succ_mul]
    have h1 := h x List.mem_cons_self
    have h2 := len2 f m l fun y hy => h y (List.mem_cons_of_mem _ hy)
    omega
section
variable {P : Program} {w : World} {K : PySem.W.Frag} {mg : Str → Option Value} {base : Heap} {CP CS : Addr}
theorem sc_cases : FnScope ["setting", "owner", "some", "told", "beside", "found", "whole", "more", "held", "role"] ["setting", "owner", "some"] (defScope t_cases) := ⟨rfl, rfl, rfl, by decide +kernel, rfl, by decide +kernel, by decide +kernel⟩
theorem ok_cases (T : Txt K mg CP CS) : C8.Cal P w K mg base 5 "cases" (sp_cases CP CS) [] := by
  have c_told_roles := ok_told_roles (P := P) (w := w) (base := base) T
  have c_subsets := ok_subsets (P := P) (w := w) (base := base) T
  have c_wholes := ok_wholes (P := P) (w := w) (base := base) T
  have p_policy := ok_S_policy (P := P) (w := w) (base := base) T
  have p_fixed := ok_S_fixed (P := P) (w := w) (base := base) T
  refine cal_of T.d_cases sc_cases (fun _ _ _ _ _ _ us hl => match us, hl with | [_, _, _], _ => rfl) (fun vs H Q E h => ?_) (fun f cdv A outer s H vs Q E hr h => ?_)
  · obtain ⟨a, S, o, c, sm, ws, rfl, _⟩ := h
    rfl
  · obtain ⟨a, S, o, c, sm, ws, rfl, stg, ok, few, ec, dc, smok, sm2, q⟩ := h
    have lsm : ws.length = sm.length := by rw [← dc.len, List.length_map]
    have tasc := told_asc (S := S) ok.l8
    have trl := told_roles_ok ok
    refine ⟨_, (pss_cons (ps_set (i := 3) sc_cases.nd rfl (Or.inr rfl) (C8.pe_c c_told_roles hr (by decide) (by rfl) (pa_cons (pe_pp p_policy hr (by decide) (pv 0)) pa_nil)))
      (pss_cons (ps_set (i := 4) sc_cases.nd rfl (Or.inl rfl) (C8.pe_c c_subsets hr (by decide) (by rfl) (pa_cons (pe_lc rfl sc_cases.nd (pi_tup (pv 2)) (blkOk_by (own := [("role", 9)]) (by show blkC ["setting", "owner", "some", "told", "beside", "found", "whole", "more", "held", "role"] (defScope t_cases) _ _ = true; decide +kernel)) (fun _ _ _ _ _ => (pg_name (i := 9) sc_cases.nd rfl (by first | exact Or.inl rfl | exact Or.inr rfl))) (fun _ _ _ _ _ => (pts_one (PW.pt (pw_and (pt_cmpR (op_notInK (K := K) rfl hr.units) (pv 9) (pv 3) (by with_unfolding_all rfl)) (pw_and1 (pt_cmpR (op_notInK (K := K) rfl hr.units) (pv 9) (pe_pp p_fixed hr (by decide) (pv 0)) (by with_unfolding_all rfl))))))) (fun _ _ _ _ _ => (pv 9))) pa_nil)))
      (pss_cons (ps_set (i := 5) sc_cases.nd rfl (Or.inl rfl) (pe_lst pa_nil))
      (pss_cons (ps_for PassesOwn.never rfl (pi_list (C8.pe_c c_wholes hr (by decide) (by rfl) (pa_cons (pv 0) (pa_cons (pv 1) pa_nil)))) (pg_name (i := 6) sc_cases.nd rfl (by first | exact Or.inl rfl | exact Or.inr rfl)) (pss_one (ps_for PassesOwn.never rfl (pi_list (pv 4)) (pg_name (i := 7) sc_cases.nd rfl (by first | exact Or.inl rfl | exact Or.inr rfl)) (pss_cons (ps_set (i := 8) sc_cases.nd rfl (Or.inr rfl) (pe_callTy call_tuple_of (by rfl) T.b_tuple bo_tuple (pa_cons (pe_callB (cr_sortN rankedR rfl hr.units) (by rfl) T.b_sorted bo_sorted (pa_cons (pe_op op_catU (pv 6) (pv 7)) pa_nil)) pa_nil)))
      (pss_one (ps_expr (pe_bm PySem.F.plainAttrs_list PySem.F.slot_list_append PySem.F.type_list_append mt_append (pv 5) (pa_cons (pe_tup (pa_cons (pe_callTy call_tuple_of (by rfl) T.b_tuple bo_tuple (pa_cons (pe_lc rfl sc_cases.nd (pi_tup (pv 2)) (blkOk_by (own := [("role", 9)]) (by show blkC ["setting", "owner", "some", "told", "beside", "found", "whole", "more", "held", "role"] (defScope t_cases) _ _ = true; decide +kernel)) (fun _ _ _ _ _ => (pg_name (i := 9) sc_cases.nd rfl (by first | exact Or.inl rfl | exact Or.inr rfl))) (fun _ _ _ _ _ => (pts_one (pt_cmpR (op_inK (K := K) rfl hr.units) (pv 9) (pv 8) (by with_unfolding_all rfl)))) (fun _ _ _ _ _ => (pv 9))) pa_nil)) (pa_cons (pv 8) pa_nil))) pa_nil))))))))
      (pss_one (ps_ret (pv 5))))))), ?_⟩
    refine ⟨_, rfl, rd_policy stg fun p pol => ⟨p, S, rfl, pol, ok.n8, ok.l8, ok.few, ok.gs, fun H1 tl tw s1 etl dtl => ?_⟩⟩
    refine ⟨_, rfl, c, rfl, ⟨_, .of (s1 _ _ ec)⟩, fun D hD => lc_tup (xs := ws) (fun k H' => FilR H1 D (fun r => decide (r ∉ told S) && decide (r ∉ S.fx)) sm k H') (FilR.nil hD) (fun i H' _ t => .of ((s1.trans t.1) _ _ ec)) ?_ ?_⟩
    · rintro k x H2 hx t
      obtain ⟨r, hr, dr⟩ := dvsR dc hx
      have dr2 : DV H2 (eR r) x := dr.mono (.of_same (s1.trans t.1))
      refine ⟨rfl, _, rfl, _, rfl, eR r, (told S).map eR, tl, tw, dr2, rfl, .inl (.of (t.1 _ _ etl)), dtl.mono (.of_same t.1), dep_eR _, _, rfl, ?_⟩
      rw [show (if true = true then !decide (eR r ∈ (told S).map eR) else decide (eR r ∈ (told S).map eR)) = !decide (r ∈ told S) from congrArg not (decide_eq_decide.mpr memR)]
      by_cases ht : r ∈ told S
      · rw [decide_eq_true ht]
        exact t.skip hr (by simp [ht]) (Same.refl _)
      · rw [decide_eq_false ht]
        refine ⟨_, rfl, _, rfl, rd_fixed (stg.same (s1.trans t.1)) fun f fs ef df => ⟨eR r, S.fx.map eR, f, fs, dr2, rfl, .inr (.of ef), df, dep_eR _, _, rfl, ?_⟩⟩
        rw [show (if true = true then !decide (eR r ∈ S.fx.map eR) else decide (eR r ∈ S.fx.map eR)) = !decide (r ∈ S.fx) from congrArg not (decide_eq_decide.mpr memR)]
        by_cases hf : r ∈ S.fx
        · rw [decide_eq_true hf]
          exact t.skip hr (by simp [hf]) (Same.refl _)
        · rw [decide_eq_false hf]
          exact ⟨_, rfl, t.keep hr (by simp [ht, hf]) (by omega) (Same.refl _) dr2⟩
    · rintro H2 t
      obtain ⟨s2, _, bs, eb, db⟩ := t.done lsm
      have lb : (beside S (told S) sm).length ≤ 2 := Nat.le_trans (List.length_filter_le _ _) sm2
      refine ⟨D, beside S (told S) sm, bs, rfl, eb, db, by omega, fun H3 bl bq s3 ebl dbl => ?_⟩
      have lbq : (subs (beside S (told S) sm)).length ≤ 4 := by
        rw [subs_len]
        exact Nat.le_trans (Nat.pow_le_pow_right (by decide : 2 > 0) lb) (by decide)
      have lbq2 : bq.length = (subs (beside S (told S) sm)).length := by rw [← dbl.len, List.length_map]
      have s03 := (s1.trans s2).trans s3
      refine ⟨by decide, fun pf hpf => ?_⟩
      have s4 : L2.Same H3 (upd H3 pf (.lst [])) := same_upd hpf
      refine ⟨_, rfl, _, rfl, a, S, o, rfl, stg.same (s03.trans s4), ok, few, fun H5 wl wq s5 hwl ewl dwl => ?_⟩
      have ne1 : pf ≠ wl := ne_of_none (upd_same (H := H3) (a := pf) (o := .lst [])) hwl
      have ne2 : bl ≠ pf := ne_of_none ebl hpf
      have s45 := s4.trans s5
      have s05 := s03.trans s45
      have lwl : (wholesL S o).length ≤ 1024 := Nat.le_trans (List.length_filter_le _ _) (subs_few few)
      have lwq : wq.length = (wholesL S o).length := by rw [← dwl.len, List.length_map]
      have lcw : ∀ W, (casesW S sm W).length ≤ 4 := fun W => by
        unfold casesW
        rw [List.length_map]
        exact lbq
      refine ⟨wl, rfl, ⟨_, .of ewl⟩, for_list (xs := wq) (fun i σ H' => ∃ us x6 x7 x8, σ = [some (.ref a), some (.int (o : Nat)), some (.ref c), some (.ref tl), some (.ref bl), some (.ref pf), x6, x7, x8, none] ∧ L2.Same H3 H' ∧ Tk H5 H' ∧ H' wl = some (.lst wq) ∧ H' pf = some (.lst us) ∧ DVs H' ((((wholesL S o).take i).flatMap (casesW S sm)).map eCase) us)
        ⟨[], _, _, _, rfl, s45, Tk.refl _, ewl, s5 _ _ upd_same, .nil⟩ (fun i σ H' _ ⟨_, _, _, _, _, _, _, e, _⟩ => .of e) ?_ ?_⟩
      · rintro i x σ H6 hx ⟨us, _, _, _, rfl, s6, t6, ewl6, epf6, d6⟩
        obtain ⟨W, hW, dW⟩ := dvsRow dwl hx
        have hWm := List.mem_of_getElem? hW
        have hWs := subs_sub _ _ (List.mem_filter.mp hWm).1
        have Wasc := sub_asc tasc hWs
        refine ⟨_, rfl, bl, rfl, ⟨_, .of (s6 _ _ ebl)⟩, for_list (xs := bq) (fun j σ H' => ∃ us x7 x8, σ = [some (.ref a), some (.int (o : Nat)), some (.ref c), some (.ref tl), some (.ref bl), some (.ref pf), some x, x7, x8, none] ∧ L2.Same H3 H' ∧ Tk H5 H' ∧ H' wl = some (.lst wq) ∧ H' pf = some (.lst us) ∧ DVs H' ((((wholesL S o).take i).flatMap (casesW S sm) ++ ((subs (beside S (told S) sm)).take j).map (caseOf sm W)).map eCase) us)
          ⟨us, _, _, rfl, s6, t6, ewl6, epf6, by rw [List.take_zero, List.map_nil, List.append_nil]; exact d6⟩ (fun j σ H' _ ⟨_, _, _, _, s, _⟩ => .of (s _ _ ebl)) ?_ ?_⟩
        · rintro j y σ H7 hy ⟨us, _, _, rfl, s7, t7, ewl7, epf7, d7⟩
          obtain ⟨M, hM, dM⟩ := dvsRow dbl hy
          have hMs := subs_sub _ _ (List.mem_of_getElem? hM)
          obtain ⟨b1, w1, rfl, eb1, db1⟩ := dRow (dW.mono t7)
          obtain ⟨b2, w2, rfl, eb2, db2⟩ := dRow (dM.mono (.of_same s7))
          have lw1 : w1.length ≤ 10 := by
            rw [← db1.len, List.length_map]
            exact Nat.le_trans hWs.length_le few
          have lw2 : w2.length ≤ 2 := by
            rw [← db2.len, List.length_map]
            exact Nat.le_trans hMs.length_le lb
          have inW : ∀ r ∈ W, Sm r := fun r hr => (trl.1 r (hWs.subset hr)).sm ok.n8 ok.l8
          have inM : ∀ r ∈ M, r ∈ sm ∧ r ∉ told S := fun r hr => by
            obtain ⟨h1, h2⟩ := List.mem_filter.mp (hMs.subset hr)
            rw [Bool.and_eq_true, decide_eq_true_eq, decide_eq_true_eq] at h2
            exact ⟨h1, h2.1⟩
          have inWM : ∀ r ∈ W ++ M, Sm r := fun r hr => (List.mem_append.mp hr).elim (inW r) fun h => (smok.1 r (inM r h).1).sm ok.n8 ok.l8
          have ndWM : (W ++ M).Nodup := List.nodup_append.mpr ⟨asc_nodup Wasc, asc_nodup ((smok.2.filter _).sublist hMs), fun x h1 y h2 e => (inM y h2).2 (e ▸ hWs.subset h1)⟩
          refine ⟨_, rfl, _, rfl, b1, b2, w1, w2, rfl, rfl, eb1, eb2, by rw [sizeLine_eq]; omega, fun t H8 s8 et => ?_⟩
          have dcat : DVs H8 ((W ++ M).map eR) (w1 ++ w2) := by
            rw [List.map_append]
            exact (db1.app db2).mono (.of_same s8)
          obtain ⟨L, lk, lv, lc⟩ := cels_of dcat fun k hk => by
            obtain ⟨r, _, e⟩ := List.mem_map.mp hk
            exact ⟨_, e.symm⟩
          have lL : L.length ≤ 12 := by
            have z := congrArg List.length lv
            rw [List.length_map, List.length_append] at z
            omega
          rw [← lv] at et
          have mem : ∀ p ∈ L, ∃ r, p.2 = eR r ∧ r ∈ W ++ M := fun p hp => by
            obtain ⟨r, hr, e⟩ := List.mem_map.mp (lk ▸ List.mem_map_of_mem (f := fun x : Cel => x.2) hp)
            exact ⟨r, e.symm, hr⟩
          refine ⟨t, L, rfl, .inr (.inl (.of et)), lc, fun p hp => ?_, by omega, fun z N hz pm pw => ?_⟩
          · obtain ⟨r, e, hr⟩ := mem p hp
            exact ⟨r, e, inWM r hr⟩
          · have keys : N.map (·.2) = (srt (W ++ M)).map eR := by
              refine sorted_roles (srt_asc _) (fun k => ?_) ?_ (fun r hr => inWM r ((mem_srt inWM).mp hr)) pw
              · rw [(pm.map (·.2)).mem_iff, lk]
                constructor
                · intro hk
                  obtain ⟨r, hr, rfl⟩ := List.mem_map.mp hk
                  exact memR.mpr ((mem_srt inWM).mpr hr)
                · intro hk
                  obtain ⟨r, hr, rfl⟩ := List.mem_map.mp hk
                  exact memR.mpr ((mem_srt inWM).mp hr)
              · refine (pm.map (·.2)).nodup_iff.mpr ?_
                rw [lk]
                exact List.pairwise_map.mpr (ndWM.imp fun {a b} h e => h (eR_inj e))
            have s9 := sNew (o := .lst (N.map cv)) s8 hz
            have cN : Cels (upd H8 z (.lst (N.map cv))) N := fun p hp => (lc p (pm.mem_iff.mp hp)).mono (tk_upd hz)
            refine ⟨z, _, rfl, .inl ⟨.of upd_same, fun g hg => ?_⟩⟩
            have s10 := sNew (o := .tup (N.map cv)) s9 hg
            have s310 := s7.trans s10
            have eg : upd (upd H8 z (.lst (N.map cv))) g (.tup (N.map cv)) g = some (.tup (N.map cv)) := upd_same
            have dg : DVs (upd (upd H8 z (.lst (N.map cv))) g (.tup (N.map cv))) ((srt (W ++ M)).map eR) (N.map cv) := by
              rw [← keys]
              exact (cels_dvs cN).mono (tk_upd hg)
            have epf10 := s10 _ _ epf7
            generalize upd (upd H8 z (.lst (N.map cv))) g (.tup (N.map cv)) = H10 at s10 s310 eg dg epf10 ⊢
            have s010 := s03.trans s310
            refine ⟨_, rfl, .inl ⟨rfl, _, .of epf10⟩, _, rfl, c, rfl, ⟨_, .of (s010 _ _ ec)⟩, fun D2 hD2 => lc_tup (xs := ws) (fun k H' => FilR H10 D2 (fun r => decide (r ∈ srt (W ++ M))) sm k H') (FilR.nil hD2) (fun i H' _ t => .of ((s010.trans t.1) _ _ ec)) ?_ ?_⟩
            · rintro k x H11 hx t
              obtain ⟨r, hr, dr⟩ := dvsR dc hx
              have dr2 : DV H11 (eR r) x := dr.mono (.of_same (s010.trans t.1))
              refine ⟨rfl, _, rfl, _, rfl, eR r, (srt (W ++ M)).map eR, g, N.map cv, dr2, rfl, .inr (.of (t.1 _ _ eg)), dg.mono (.of_same t.1), dep_eR _, _, rfl, ?_⟩
              rw [show (if false = true then !decide (eR r ∈ (srt (W ++ M)).map eR) else decide (eR r ∈ (srt (W ++ M)).map eR)) = decide (r ∈ srt (W ++ M)) from decide_eq_decide.mpr memR]
              refine ite2 (fun hb => ?_) (fun hb => ?_)
              · exact ⟨_, rfl, t.keep hr hb (by omega) (Same.refl _) dr2⟩
              · exact t.skip hr (by simpa using hb) (Same.refl _)
            · rintro H11 t
              obtain ⟨s11, _, fs, efs, dfs⟩ := t.done lsm
              refine ⟨D2, fs, rfl, .inl ⟨.of efs, fun t2 ht2 => ?_⟩⟩
              have s12 := sNew (o := .tup fs) s11 ht2
              refine ⟨_, rfl, (by show 2 ≤ sizeLine; decide), fun e he => ?_⟩
              have s13 := sNew (o := .tup [.ref t2, .ref g]) s12 he
              have epf13 := s13 _ _ epf10
              have lus : us.length ≤ 5000 := by
                rw [← d7.len, List.length_map, List.length_append, List.length_map, List.length_take]
                have h1 := len2 (casesW S sm) 4 ((wholesL S o).take i) fun W _ => lcw W
                rw [List.length_take] at h1
                omega
              have e2' : upd (upd H11 t2 (.tup fs)) e (.tup [.ref t2, .ref g]) t2 = some (.tup fs) := by
                rw [upd_ne (ne_of_none (upd_same (H := H11)) he)]
                exact upd_same
              have dcase : DV (upd (upd H11 t2 (.tup fs)) e (.tup [.ref t2, .ref g])) (eCase (caseOf sm W M)) (.ref e) := by
                refine .tup upd_same (.cons (.tup e2' ?_) (.cons (.tup (s13 _ _ eg) (dg.mono (.of_same s13))) .nil))
                exact (dfs.mono (tk_upd ht2)).mono (tk_upd he)
              have tp := tk_put (o := .lst (us ++ [.ref e])) epf13
              have s713 := s10.trans s13
              refine ⟨pf, us, .ref e, rfl, rfl, epf13, by rw [sizeLine_eq]; omega, us ++ [.ref e], _, _, rfl, sUp (s310.trans s13) hpf, ((t7.trans (.of_same s713))).trans tp, ?_, upd_same, ?_⟩
              · rw [upd_ne ne1.symm]
                exact s713 _ _ ewl7
              · have e0 : ∀ A : List Case, A ++ ((subs (beside S (told S) sm)).take (j + 1)).map (caseOf sm W) = (A ++ ((subs (beside S (told S) sm)).take j).map (caseOf sm W)) ++ [caseOf sm W M] := fun A => by
                  rw [take_snoc hM, List.map_append (f := caseOf sm W), List.append_assoc]
                  rfl
                rw [e0, List.map_append]
                exact ((d7.mono (.of_same s713)).snoc dcase).mono tp
        · rintro σ H7 ⟨us, x7, x8, rfl, s7, t7, ewl7, epf7, d7⟩
          refine ⟨us, _, _, _, rfl, s7, t7, ewl7, epf7, ?_⟩
          rw [lbq2, List.take_length] at d7
          rw [take_snoc hW, List.flatMap_append, List.flatMap_singleton]
          exact d7
      · rintro σ H6 ⟨us, _, _, _, rfl, s6, t6, ewl6, epf6, d6⟩
        rw [lwq, List.take_length] at d6
        exact ⟨_, rfl, q H6 pf us (s03.trans s6) epf6 d6⟩
end
end G53


/-! The walk: state_with, shown, within. -/
namespace G53
open PySem PySem.Spec PyProof.Rows L2

/-- the data of the roles among rs with p, the first k looked at, in a new list -/
def FilF (H : Hp) (D : Addr) (p : Role → Bool) (f : Role → NK) (rs : List Role) (k : Nat) (H' : Hp) : Prop := L2.Same H H' ∧ H D = none ∧ ∃ fs, H' D = some (.lst fs) ∧ DVs H' (((rs.take k).filter p).map f) fs
theorem FilF.nil {H : Hp} {D : Addr} {p : Role → Bool} {f : Role → NK} {rs : List Role} (hD : H D = none) : FilF H D p f rs 0 (upd H D (.lst [])) := ⟨same_upd hD, hD, [], upd_same, .nil⟩
theorem FilF.keep {H H1 H2 : Hp} {D : Addr} {p : Role → Bool} {f : Role → NK} {rs : List Role} {k : Nat} {r : Role} {x : V} (h : FilF H D p f rs k H1) (hr : rs[k]? = some r) (hp : p r = true) (few : rs.length ≤ 1000) (s : L2.Same H1 H2) (d : DV H2 (f r) x) :
    ∃ acc, H2 D = some (.lst acc) ∧ acc.length < sizeLine ∧ FilF H D p f rs (k + 1) (upd H2 D (.lst (acc ++ [x]))) := by
  obtain ⟨s1, hD, fs, e, df⟩ := h
  have e2 := s _ _ e
  have tp := tk_put (o := .lst (fs ++ [x])) e2
  refine ⟨fs, e2, ?_, sUp (s1.trans s) hD, hD, _, upd_same, ?_⟩
  · rw [← df.len, List.length_map, sizeLine_eq]
    have := List.length_filter_le p (rs.take k)
    rw [List.length_take] at this
    omega
  · rw [take_snoc hr, List.filter_append, List.filter_cons_of_pos hp, List.filter_nil, List.map_append]
    exact ((df.mono (.of_same s)).snoc d).mono tp
theorem FilF.skip {H H1 H2 : Hp} {D : Addr} {p : Role → Bool} {f : Role → NK} {rs : List Role} {k : Nat} {r : Role} (h : FilF H D p f rs k H1) (hr : rs[k]? = some r) (hp : p r = false) (s : L2.Same H1 H2) : FilF H D p f rs (k + 1) H2 := by
  obtain ⟨s1, hD, fs, e, df⟩ := h
  refine ⟨s1.trans s, hD, fs, s _ _ e, ?_⟩
  rw [take_snoc hr, List.filter_append, List.filter_cons_of_neg (by rw [hp]; exact Bool.false_ne_true), List.filter_nil, List.append_nil]
  exact df.mono (.of_same s)
theorem FilF.done {H H1 : Hp} {D : Addr} {p : Role → Bool} {f : Role → NK} {rs : List Role} {n : Nat} (h : FilF H D p f rs n H1) (e : n = rs.length) : L2.Same H H1 ∧ H D = none ∧ ∃ fs, H1 D = some (.lst fs) ∧ DVs H1 ((rs.filter p).map f) fs := by
  obtain ⟨s1, hD, fs, e2, df⟩ := h
  rw [e, List.take_length] at df
  exact ⟨s1, hD, fs, e2, df⟩
/-- sorted cells of grants, without doubles -/
theorem sorted_grants {M : List Cel} {tot : List Grant} (hm : ∀ p ∈ M, ∃ g, p.2 = eG g ∧ g ∈ tot) (hn : (M.map (·.2)).Nodup) (hs : ∀ g ∈ tot, SmG g) (hp : M.Pairwise fun x y => kG x.2 ≤ kG y.2) : ∃ gl : List Grant, M.map (·.2) = gl.map eG ∧ gl.Pairwise (fun g h => rG g < rG h) ∧ ∀ g ∈ gl, g ∈ tot := by
  have ex : ∃ gl : List Grant, M.map (·.2) = gl.map eG ∧ ∀ g ∈ gl, g ∈ tot := by
    clear hn hp
    induction M with
    | nil => exact ⟨[], rfl, fun g hg => absurd hg (by simp)⟩
    | cons p M ih =>
      obtain ⟨gl, e, s⟩ := ih fun q hq => hm q (List.mem_cons_of_mem _ hq)
      obtain ⟨g, eg, hg⟩ := hm p List.mem_cons_self
      refine ⟨g :: gl, by rw [List.map_cons, List.map_cons, e, eg], fun x hx => ?_⟩
      rcases List.mem_cons.mp hx with rfl | hx
      · exact hg
      · exact s x hx
  obtain ⟨gl, e, s⟩ := ex
  refine ⟨gl, e, ?_, s⟩
  have nd : gl.Nodup := by
    rw [e] at hn
    exact (List.pairwise_map.mp hn).imp fun h z => h (congrArg eG z)
  have pw : gl.Pairwise fun g h => rG g ≤ rG h := by
    have z : (M.map (·.2)).Pairwise fun x y => kG x ≤ kG y := List.pairwise_map.mpr hp
    rw [e, List.pairwise_map] at z
    refine z.imp fun {a b} h => ?_
    rw [kG_eq, kG_eq] at h
    omega
  refine List.Pairwise.imp_of_mem (R := fun g h => rG g ≤ rG h ∧ g ≠ h) (fun {a b} ha hb h => ?_) (pw.and nd)
  rcases Nat.lt_or_ge (rG a) (rG b) with q | q
  · exact q
  · exact absurd (rG_inj (hs a (s a ha)) (hs b (s b hb)) (Nat.le_antisymm h.1 q)) h.2
theorem OkR.mono {n m l : Nat} {r : Role} (h : n ≤ m) (o : OkR n l r) : OkR m l r := ⟨Nat.lt_of_lt_of_le o.1 h, o.2⟩
theorem OkG.mono {n m l : Nat} (h : n ≤ m) : ∀ {g : Grant}, OkG n l g → OkG m l g
  | (r, .own o), q => ⟨q.1.mono h, Nat.lt_of_lt_of_le q.2 h⟩
  | (r, .rol s), q => ⟨q.1.mono h, OkR.mono h q.2⟩
  | (r, .bth s t), q => ⟨q.1.mono h, OkR.mono h q.2.1, OkR.mono h q.2.2.1, q.2.2.2⟩
def sp_state_with (CP CS : Addr) : Sp := fun vs H Q _ => ∃ (a : Addr) (S : Stg) (o : Nat) (c : Addr) (held : List Role) (ws : List V), vs = [.ref a, .int (o : Nat), .ref c] ∧ StgD CP CS H a S ∧ OkS S ∧ o ≤ S.n ∧ H c = some (.tup ws) ∧ DVs H (held.map eR) ws ∧ (∀ r ∈ held, OkR S.n S.l r) ∧ held.length ≤ 20 ∧
  ∀ (H' : Hp) (p : Addr), L2.Same H H' → Q (.ref p) H'
section
variable {P : Program} {w : World} {K : PySem.W.Frag} {mg : Str → Option Value} {base : Heap} {CP CS : Addr}
theorem sc_state_with : FnScope ["setting", "owner", "held", "policy", "found", "role", "body", "owners"] ["setting", "owner", "held"] (defScope t_state_with) := ⟨rfl, rfl, rfl, by decide +kernel, rfl, by decide +kernel, by decide +kernel⟩
theorem ok_state_with (T : Txt K mg CP CS) : C8.Cal P w K mg base 8 "state_with" (sp_state_with CP CS) [] := by
  have c_Policy := ok_P_init (P := P) (w := w) (base := base) T
  have p_policy := ok_S_policy (P := P) (w := w) (base := base) T
  have p_fixed := ok_S_fixed (P := P) (w := w) (base := base) T
  have p_kept := ok_S_kept (P := P) (w := w) (base := base) T
  have p_grants := ok_P_grants (P := P) (w := w) (base := base) T
  have p_owners := ok_P_owners (P := P) (w := w) (base := base) T
  have p_labels := ok_P_labels (P := P) (w := w) (base := base) T
  refine cal_of T.d_state_with sc_state_with (fun _ _ _ _ _ _ us hl => match us, hl with | [_, _, _], _ => rfl) (fun vs H Q E h => ?_) (fun f cdv A outer s H vs Q E hr h => ?_)
  · obtain ⟨a, S, o, c, held, ws, rfl, _⟩ := h
    rfl
  · obtain ⟨a, S, o, c, held, ws, rfl, stg, ok, on, ec, dc, hok, hfew, q⟩ := h
    have lws : ws.length = held.length := by rw [← dc.len, List.length_map]
    have n6 := ok.n3
    have l4 := ok.l2
    have n1 := ok.n1
    have l1 := ok.l1
    have gfew := ok.few
    refine ⟨_, (pss_cons (ps_par (i := 3) (j := 4) rfl sc_state_with.nd rfl rfl (by decide) rfl rfl (pa_cons (pe_pp p_policy hr (by decide) (pv 0)) (pa_cons (pe_lst pa_nil) pa_nil)) rfl)
      (pss_cons (ps_for PassesOwn.never rfl (pi_tup (pe_pp p_grants hr (by decide) (pv 3))) (pg_two (K := K) (i := 5) (j := 6) rfl rfl sc_state_with.nd rfl rfl (by first | exact Or.inl rfl | exact Or.inr rfl) (by first | exact Or.inl rfl | exact Or.inr rfl) (by first | exact Or.inl rfl | exact Or.inr rfl) (by first | exact Or.inl rfl | exact Or.inr rfl)) (pss_one (ps_if (PW.pt (pw_or (pt_cmpR (op_inN hr.units) (pv 5) (pe_pp p_kept hr (by decide) (pv 0)) (by with_unfolding_all rfl)) (pw_or1 (pt_cmpR (op_inN hr.units) (pv 5) (pv 2) (by with_unfolding_all rfl))))) (pss_one (ps_expr (pe_bm PySem.F.plainAttrs_list PySem.F.slot_list_append PySem.F.type_list_append mt_append (pv 4) (pa_cons (pe_tup (pa_cons (pv 5) (pa_cons (pv 6) pa_nil))) pa_nil)))) pss_nil)))
      (pss_cons (ps_expr (pe_bm PySem.F.plainAttrs_list PySem.F.slot_list_extend PySem.F.type_list_extend mt_extend (pv 4) (pa_cons (pe_lc rfl sc_state_with.nd (pi_tup (pv 2)) (blkOk_by (own := [("role", 5)]) (by show blkC ["setting", "owner", "held", "policy", "found", "role", "body", "owners"] (defScope t_state_with) _ _ = true; decide +kernel)) (fun _ _ _ _ _ => (pg_name (i := 5) sc_state_with.nd rfl (by first | exact Or.inl rfl | exact Or.inr rfl))) (fun _ _ _ _ _ => (pts_one (pt_cmpR (op_notInK (K := K) rfl hr.units) (pv 5) (pe_pp p_fixed hr (by decide) (pv 0)) (by with_unfolding_all rfl)))) (fun _ _ _ _ _ => (pe_tup (pa_cons (pv 5) (pa_cons (pe_tup (pa_cons pe_str (pa_cons (pv 1) pa_nil))) pa_nil))))) pa_nil)))
      (pss_cons (ps_set (i := 7) sc_state_with.nd rfl (Or.inl rfl) (pe_callB (call_max2 rfl) (by rfl) T.b_max bo_max (pa_cons (pe_pp p_owners hr (by decide) (pv 3)) (pa_cons (pe_op op_add (pv 1) pe_int) pa_nil))))
      (pss_one (ps_ret (C8.pe_mk c_Policy hr (by decide) (by rfl) (pa_cons (pv 7) (pa_cons (pe_pp p_labels hr (by decide) (pv 3)) (pa_cons (pe_callTy call_tuple_of (by rfl) T.b_tuple bo_tuple (pa_cons (pe_callB (cr_sortN rankedG rfl hr.units) (by rfl) T.b_sorted bo_sorted (pa_cons (pe_callTy (cr_setN rfl hr.units) (by rfl) T.b_set bo_set (pa_cons (pv 4) pa_nil)) pa_nil)) pa_nil)) pa_nil)))))))))), ?_⟩
    refine ⟨_, rfl, rd_policy stg fun p pol => ⟨by decide, fun pf hpf => ⟨_, _, rfl, ?_⟩⟩⟩
    have s0 : L2.Same H (upd H pf (.lst [])) := same_upd hpf
    refine ⟨_, rfl, rd_grants (pol.same s0) fun g gws eg dg => ⟨_, rfl, ⟨_, .of eg⟩, for_tup (xs := gws) (fun i σ H' => ∃ us x y, σ = [some (.ref a), some (.int (o : Nat)), some (.ref c), some (.ref p), some (.ref pf), x, y, none] ∧ L2.Same H H' ∧ Tk (upd H pf (.lst [])) H' ∧ H' pf = some (.lst us) ∧ DVs H' (((S.gs.take i).filter fun g => decide (g.1 ∈ S.kp) || decide (g.1 ∈ held)).map eG) us)
      ⟨[], _, _, rfl, s0, Tk.refl _, upd_same, .nil⟩ (fun i σ H' _ ⟨_, _, _, _, _, t, _⟩ => .of (t _ _ eg)) ?_ ?_⟩⟩
    · rintro i x σ H1 hx ⟨us, _, _, rfl, s1, t1, epf, dpf⟩
      obtain ⟨gr, hg, dgr⟩ := dvsG dg hx
      have hi := (List.getElem?_eq_some_iff.mp hg).1
      obtain ⟨t, y, z, rfl, et, dy, dz⟩ := dG (dgr.mono t1)
      have lus : us.length ≤ 20 := by
        rw [← dpf.len, List.length_map]
        have := List.length_filter_le (fun g : Grant => decide (g.1 ∈ S.kp) || decide (g.1 ∈ held)) (S.gs.take i)
        rw [List.length_take] at this
        omega
      have app : (decide (gr.1 ∈ S.kp) || decide (gr.1 ∈ held)) = true → tDrop (tBM K "list" rAppend (tVar 4) (tCons (tTup (tCons (tVar 5) (tCons (tVar 6) tNil))) tNil)) { nx := fun σ H' => ∃ us x y, σ = [some (.ref a), some (.int (o : Nat)), some (.ref c), some (.ref p), some (.ref pf), x, y, none] ∧ L2.Same H H' ∧ Tk (upd H pf (.lst [])) H' ∧ H' pf = some (.lst us) ∧ DVs H' (((S.gs.take (i + 1)).filter fun g => decide (g.1 ∈ S.kp) || decide (g.1 ∈ held)).map eG) us, rt := Q, bk := fun _ _ => False, ct := fun _ _ => False } [some (.ref a), some (.int (o : Nat)), some (.ref c), some (.ref p), some (.ref pf), some y, some z, none] H1 := fun hk => by
        refine ⟨_, rfl, .inl ⟨rfl, _, .of epf⟩, _, rfl, _, rfl, (by show 2 ≤ sizeLine; decide), fun e he => ?_⟩
        have s2 : L2.Same H1 (upd H1 e (.tup [y, z])) := same_upd he
        have epf2 := s2 _ _ epf
        have tp := tk_put (o := .lst (us ++ [.ref e])) epf2
        refine ⟨pf, us, .ref e, rfl, rfl, epf2, by rw [sizeLine_eq]; omega, us ++ [.ref e], _, _, rfl, sUp (s1.trans s2) hpf, (t1.trans (.of_same s2)).trans tp, upd_same, ?_⟩
        rw [take_snoc hg, List.filter_append, List.filter_cons_of_pos (by exact hk), List.filter_nil, List.map_append]
        exact ((dpf.mono (.of_same s2)).snoc (.tup upd_same (.cons (dy.mono (.of_same s2)) (.cons (dz.mono (.of_same s2)) .nil)))).mono tp
      refine ⟨_, _, rfl, .of et, rfl, _, _, rfl, _, _, rfl, rfl, _, rfl, _, rfl, rd_kept (stg.same s1) fun f fs ef df => ⟨eR gr.1, S.kp.map eR, f, fs, dy, rfl, .inr (.of ef), df, dep_eR _, _, rfl, ?_⟩⟩
      rw [show (if false = true then !decide (eR gr.1 ∈ S.kp.map eR) else decide (eR gr.1 ∈ S.kp.map eR)) = decide (gr.1 ∈ S.kp) from decide_eq_decide.mpr memR]
      by_cases hk : gr.1 ∈ S.kp
      · rw [decide_eq_true hk]
        exact app (by simp [hk])
      · rw [decide_eq_false hk]
        refine ⟨_, rfl, _, rfl, eR gr.1, held.map eR, c, ws, dy, rfl, .inr (.of (s1 _ _ ec)), dc.mono (.of_same s1), dep_eR _, _, rfl, ?_⟩
        rw [show (if false = true then !decide (eR gr.1 ∈ held.map eR) else decide (eR gr.1 ∈ held.map eR)) = decide (gr.1 ∈ held) from decide_eq_decide.mpr memR]
        by_cases hh : gr.1 ∈ held
        · rw [decide_eq_true hh]
          exact app (by simp [hh])
        · rw [decide_eq_false hh]
          refine ⟨us, _, _, rfl, s1, t1, epf, ?_⟩
          rw [take_snoc hg, List.filter_append, List.filter_cons_of_neg (by simp [hk, hh]), List.filter_nil, List.append_nil]
          exact dpf
    · rintro σ H1 ⟨us, _, _, rfl, s1, t1, epf, dpf⟩
      have lus : us.length ≤ 20 := by
        rw [← dpf.len, List.length_map]
        have := List.length_filter_le (fun g : Grant => decide (g.1 ∈ S.kp) || decide (g.1 ∈ held)) (S.gs.take gws.length)
        rw [List.length_take] at this
        omega
      refine ⟨_, rfl, .inl ⟨rfl, _, .of epf⟩, _, rfl, c, rfl, ⟨_, .of (s1 _ _ ec)⟩, fun D hD => lc_tup (xs := ws) (fun k H' => FilF H1 D (fun r => !decide (r ∈ S.fx)) (fun r => eG (r, .own o)) held k H') (FilF.nil hD) (fun i H' _ t => .of ((s1.trans t.1) _ _ ec)) ?_ ?_⟩
      · rintro k x H2 hx t
        obtain ⟨r, hr, dr⟩ := dvsR dc hx
        have dr2 : DV H2 (eR r) x := dr.mono (.of_same (s1.trans t.1))
        refine ⟨rfl, _, rfl, _, rfl, rd_fixed (stg.same (s1.trans t.1)) fun f fs ef df => ⟨eR r, S.fx.map eR, f, fs, dr2, rfl, .inr (.of ef), df, dep_eR _, _, rfl, ?_⟩⟩
        rw [show (if true = true then !decide (eR r ∈ S.fx.map eR) else decide (eR r ∈ S.fx.map eR)) = !decide (r ∈ S.fx) from congrArg not (decide_eq_decide.mpr memR)]
        refine ite2 (fun hb => ?_) (fun hb => ?_)
        · refine ⟨_, rfl, _, rfl, (by show 2 ≤ sizeLine; decide), fun e1 he1 => ⟨(by show 2 ≤ sizeLine; decide), fun e2 he2 => ?_⟩⟩
          have sa : L2.Same H2 (upd H2 e1 (.tup [.str "owner", .int (o : Nat)])) := same_upd he1
          have sb := sNew (o := .tup [x, .ref e1]) sa he2
          have ne := ne_of_none (upd_same (H := H2) (a := e1) (o := .tup [.str "owner", .int (o : Nat)])) he2
          refine t.keep hr hb (by omega) sb (.tup upd_same (.cons (dr2.mono (.of_same sb)) (.cons (.tup (by rw [upd_ne ne]; exact upd_same) (.cons (.text _) (.cons (.num _) .nil))) .nil)))
        · exact t.skip hr (by simpa using hb) (Same.refl _)
      · rintro H2 t
        obtain ⟨s2, hD1, fs, efs, dfs⟩ := t.done lws
        have lfs : fs.length ≤ 20 := by
          rw [← dfs.len, List.length_map]
          exact Nat.le_trans (List.length_filter_le _ _) hfew
        have epf2 := s2 _ _ epf
        have tp := tk_put (o := .lst (us ++ fs)) epf2
        have sH : L2.Same H (upd H2 pf (.lst (us ++ fs))) := sUp (s1.trans s2) hpf
        have e3 : upd H2 pf (.lst (us ++ fs)) pf = some (.lst (us ++ fs)) := upd_same
        obtain ⟨tot, etot, oktot⟩ : ∃ tot : List Grant, DVs (upd H2 pf (.lst (us ++ fs))) (tot.map eG) (us ++ fs) ∧ ∀ g ∈ tot, OkG (max S.n (o + 1)) S.l g := by
          refine ⟨((S.gs.take gws.length).filter fun g => decide (g.1 ∈ S.kp) || decide (g.1 ∈ held)) ++ (held.filter fun r => !decide (r ∈ S.fx)).map (fun r => ((r, Body.own o) : Grant)), ?_, fun g hg => ?_⟩
          · rw [List.map_append, List.map_map]
            exact ((dpf.mono (.of_same s2)).app dfs).mono tp
          · rcases List.mem_append.mp hg with hg | hg
            · exact (ok.gs.1 g (List.mem_of_mem_take (List.mem_filter.mp hg).1)).mono (Nat.le_max_left _ _)
            · obtain ⟨r, hr, rfl⟩ := List.mem_map.mp hg
              exact ⟨(hok r (List.mem_filter.mp hr).1).mono (Nat.le_max_left _ _), Nat.le_max_right _ _⟩
        refine ⟨pf, D, us, fs, rfl, rfl, epf2, efs, by rw [sizeLine_eq]; omega, ?_⟩
        generalize upd H2 pf (.lst (us ++ fs)) = H3 at sH e3 etot ⊢
        have ltot : (us ++ fs).length ≤ 40 := by
          rw [List.length_append]
          omega
        generalize us ++ fs = all at e3 etot ltot ⊢
        have eN : (if ((o : Nat) : Int) + 1 > ((S.n : Nat) : Int) then ((o : Nat) : Int) + 1 else ((S.n : Nat) : Int)) = ((max S.n (o + 1) : Nat) : Int) := by
          split <;> omega
        have m7 : max S.n (o + 1) ≤ 7 := by omega
        have m1 : 1 ≤ max S.n (o + 1) := by omega
        have smG : ∀ g ∈ tot, SmG g := fun g hg => (oktot g hg).sm (by omega) (by omega)
        refine ⟨_, rfl, rd_owners (pol.same sH) ⟨_, rfl, _, _, rfl, rfl, _, _, rfl, ?_⟩⟩
        rw [eN]
        obtain ⟨L, lk, lv, lc⟩ := cels_of etot fun k hk => by
          obtain ⟨g, _, e⟩ := List.mem_map.mp hk
          exact ⟨_, e.symm⟩
        have lL : L.length ≤ 40 := by
          rw [← lv, List.length_map] at ltot
          exact ltot
        rw [← lv] at e3
        have mem : ∀ p ∈ L, ∃ g, p.2 = eG g ∧ g ∈ tot := fun p hp => by
          obtain ⟨g, hg, e⟩ := List.mem_map.mp (lk ▸ List.mem_map_of_mem (f := fun x : Cel => x.2) hp)
          exact ⟨g, e.symm, hg⟩
        refine ⟨_, rfl, _, rfl, rd_labels (pol.same sH) ⟨_, rfl, pf, L, rfl, .of e3, lc, fun p hp => ?_, by omega, fun b M hb sub all nd lt => ⟨b, M, rfl, .inr (.inr upd_same), fun p hp => (lc p (sub p hp)).mono (tk_upd hb), fun p hp => ?_, lt, fun q' M2 hq' pm pw => ⟨q', _, rfl, .inl ⟨.of upd_same, fun t ht => ?_⟩⟩⟩⟩⟩
        · obtain ⟨g, e, _⟩ := mem p hp
          rw [e]
          exact dep_eG g
        · obtain ⟨g, e, hg⟩ := mem p (sub p hp)
          exact ⟨g, e, smG g hg⟩
        · obtain ⟨gl, e1, e2, e4⟩ := sorted_grants (tot := tot) (fun p hp => mem p (sub p (pm.mem_iff.mp hp))) ((pm.map (·.2)).nodup_iff.mpr nd) smG pw
          have c3 : Cels (upd (upd (upd H3 b (SetD w b M)) q' (.lst (M2.map cv))) t (.tup (M2.map cv))) M2 := fun p hp => (((lc p (sub p (pm.mem_iff.mp hp))).mono (tk_upd hb)).mono (tk_upd hq')).mono (tk_upd ht)
          have lgl : gl.length ≤ 63 := by
            have z := congrArg List.length e1
            rw [List.length_map, List.length_map, pm.length_eq] at z
            omega
          have sF : L2.Same H (upd (upd (upd H3 b (SetD w b M)) q' (.lst (M2.map cv))) t (.tup (M2.map cv))) := sNew (sNew (sNew sH hb) hq') ht
          refine fun x dx hx hdx nex => ⟨_, x, dx, max S.n (o + 1), S.l, gl, t, M2.map cv, rfl, hx, hdx, nex, rfl, upd_same, ?_, m1, m7, l1, Nat.le_trans l4 (by decide), by omega, ⟨fun g hg => oktot g (e4 g hg), e2⟩, fun H' sH' _ => ⟨rfl, q H' x (sF.trans sH')⟩⟩
          rw [← e1]
          exact cels_dvs c3
end
end G53


/-! The walk: shown, within. -/
namespace G53
open PySem PySem.Spec PyProof.Rows L2

theorem depAll_eR : ∀ W : List Role, NestedKey.depthAll (W.map eR) ≤ 1
  | [] => by simp [NestedKey.depthAll]
  | r :: W => by
    have h := depAll_eR W
    have e : (eR r).depth = 1 := by simp [eR, NestedKey.depth, NestedKey.depthAll]
    rw [List.map_cons, NestedKey.depthAll, e]
    omega
theorem dep_eRow (W : List Role) : (eRow W).depth ≤ 8 := by
  have h := depAll_eR W
  rw [eRow, NestedKey.depth]
  omega
theorem mapR_inj {V W : List Role} : V.map eR = W.map eR ↔ V = W := by
  refine ⟨fun h => ?_, fun h => by rw [h]⟩
  induction V generalizing W with
  | nil =>
    cases W with
    | nil => rfl
    | cons w W => cases h
  | cons v V ih =>
    cases W with
    | nil => cases h
    | cons w W =>
      rw [List.map_cons, List.map_cons] at h
      injection h with h1 h2
      rw [eR_inj h1, ih h2]
/-- what a case is -/
theorem mem_caseL {S : Stg} {o : Nat} {sm : List Role} {c : Case} : c ∈ caseL S o sm ↔ ∃ W M, W ∈ subs (told S) ∧ Whole S o W ∧ M ∈ subs (beside S (told S) sm) ∧ c = caseOf sm W M := by
  unfold caseL casesW wholesL
  rw [List.mem_flatMap]
  constructor
  · rintro ⟨W, hW, h⟩
    obtain ⟨h1, h2⟩ := List.mem_filter.mp hW
    obtain ⟨M, hM, e⟩ := List.mem_map.mp h
    exact ⟨W, M, h1, wholeB_iff.mp h2, hM, e.symm⟩
  · rintro ⟨W, M, h1, h2, hM, e⟩
    exact ⟨W, List.mem_filter.mpr ⟨h1, wholeB_iff.mpr h2⟩, List.mem_map.mpr ⟨M, hM, e.symm⟩⟩
theorem case_small {S : Stg} (ok : OkS S) {sm : List Role} (smok : Roles S.n S.l sm) {W M : List Role} (hW : W ∈ subs (told S)) (hM : M ∈ subs (beside S (told S) sm)) : ∀ r ∈ W ++ M, OkR S.n S.l r := fun r hr => by
  rcases List.mem_append.mp hr with h | h
  · exact (told_roles_ok ok).1 r ((subs_sub _ _ hW).subset h)
  · exact smok.1 r (List.mem_filter.mp ((subs_sub _ _ hM).subset h)).1
theorem case_held {S : Stg} (ok : OkS S) (few : (told S).length ≤ 10) {o : Nat} {sm : List Role} (smok : Roles S.n S.l sm) (sm2 : sm.length ≤ 2) {c : Case} (h : c ∈ caseL S o sm) : (∀ r ∈ c.2, OkR S.n S.l r) ∧ c.2.length ≤ 20 := by
  obtain ⟨W, M, hW, _, hM, rfl⟩ := mem_caseL.mp h
  have okr := case_small ok smok hW hM
  have sm8 : ∀ r ∈ W ++ M, Sm r := fun r hr => (okr r hr).sm ok.n8 ok.l8
  refine ⟨fun r hr => okr r ((mem_srt sm8).mp hr), ?_⟩
  have h1 := nodup_le (asc_nodup (srt_asc (W ++ M))) fun r hr => (mem_srt sm8).mp hr
  have h2 := (subs_sub _ _ hW).length_le
  have h3 := (subs_sub _ _ hM).length_le
  have h4 : (beside S (told S) sm).length ≤ sm.length := List.length_filter_le _ _
  rw [List.length_append] at h1
  show (srt (W ++ M)).length ≤ 20
  omega
theorem case_shows {S : Stg} (ok : OkS S) {o : Nat} {sm val : List Role} (smok : Roles S.n S.l sm) : (∃ c ∈ caseL S o sm, c.1 = val) ↔ Shows S (told S) sm val o := by
  have eq : ∀ {W M : List Role}, W ∈ subs (told S) → M ∈ subs (beside S (told S) sm) → (caseOf sm W M).1 = sm.filter (fun r => decide (r ∈ W ∨ r ∈ M)) := fun {W M} hW hM => by
    have sm8 : ∀ r ∈ W ++ M, Sm r := fun r hr => (case_small ok smok hW hM r hr).sm ok.n8 ok.l8
    refine List.filter_congr fun r _ => decide_eq_decide.mpr ?_
    rw [mem_srt sm8, List.mem_append]
  constructor
  · rintro ⟨c, hc, e⟩
    obtain ⟨W, M, hW, hw, hM, rfl⟩ := mem_caseL.mp hc
    exact ⟨W, M, hW, hw, hM, by rw [← eq hW hM]; exact e⟩
  · rintro ⟨W, M, hW, hw, hM, e⟩
    exact ⟨_, mem_caseL.mpr ⟨W, M, hW, hw, hM, rfl⟩, by rw [eq hW hM]; exact e⟩
theorem dvsC {H : Hp} {cs : List Case} {ws : List V} {i : Nat} {x : V} (d : DVs H (cs.map eCase) ws) (h : ws[i]? = some x) : ∃ c, cs[i]? = some c ∧ DV H (eCase c) x := by
  obtain ⟨k, hk, dk⟩ := d.get h
  rw [List.getElem?_map] at hk
  obtain ⟨r, hr, rfl⟩ := Option.map_eq_some_iff.mp hk
  exact ⟨r, hr, dk⟩
def sp_shown (CP CS : Addr) : Sp := fun vs H Q _ => ∃ (a : Addr) (S : Stg) (o : Nat) (c : Addr) (sm : List Role) (ws : List V) (d : Addr) (val : List Role) (vw : List V), vs = [.ref a, .int (o : Nat), .ref c, .ref d] ∧ StgD CP CS H a S ∧ OkS S ∧ (told S).length ≤ 10 ∧ o ≤ S.n ∧ H c = some (.tup ws) ∧ DVs H (sm.map eR) ws ∧ Roles S.n S.l sm ∧ sm.length ≤ 2 ∧
  H d = some (.tup vw) ∧ DVs H (val.map eR) vw ∧ ∀ (H' : Hp) (z : V), L2.Same H H' → ((z = .non ∧ ¬ Shows S (told S) sm val o) ∨ ((∃ p, z = .ref p) ∧ Shows S (told S) sm val o)) → Q z H'
def sp_within (CP CS : Addr) : Sp := fun vs H Q _ => ∃ (a : Addr) (S : Stg) (r1 r2 : Role) (v1 v2 : V), vs = [.ref a, v1, v2] ∧ StgD CP CS H a S ∧ OkS S ∧ (told S).length ≤ 10 ∧ DV H (eR r1) v1 ∧ DV H (eR r2) v2 ∧ OkR S.n S.l r1 ∧ OkR S.n S.l r2 ∧
  ∀ (H' : Hp) (z : V), L2.Same H H' → ((z = .non ∧ Inner S (told S) r1 r2) ∨ ((∃ p, z = .ref p) ∧ ¬ Inner S (told S) r1 r2)) → Q z H'
theorem srt_two {a b : Role} (ha : Sm a) (hb : Sm b) (ne : a ≠ b) : srt [a, b] = [a, b] ∨ srt [a, b] = [b, a] := by
  have sm : ∀ r ∈ [a, b], Sm r := fun r hr => by
    rcases List.mem_cons.mp hr with rfl | hr
    · exact ha
    · rw [List.mem_singleton.mp hr]
      exact hb
  rcases Nat.lt_trichotomy (rR a) (rR b) with h | h | h
  · exact .inl (asc_unique (srt_asc _) (by simpa using h) fun r => mem_srt sm)
  · exact absurd (rR_inj ha hb h) ne
  · refine .inr (asc_unique (srt_asc _) (by simpa using h) fun r => ?_)
    rw [mem_srt sm]
    simp [or_comm]
section
variable {P : Program} {w : World} {K : PySem.W.Frag} {mg : Str → Option Value} {base : Heap} {CP CS : Addr}
theorem sc_shown : FnScope ["setting", "owner", "some", "value", "told", "held"] ["setting", "owner", "some", "value"] (defScope t_shown) := ⟨rfl, rfl, rfl, by decide +kernel, rfl, by decide +kernel, by decide +kernel⟩
theorem ok_shown (T : Txt K mg CP CS) : C8.Cal P w K mg base 9 "shown" (sp_shown CP CS) [] := by
  have c_check_plain := ok_check_plain (P := P) (w := w) (base := base) T
  have c_cases := ok_cases (P := P) (w := w) (base := base) T
  have c_state_with := ok_state_with (P := P) (w := w) (base := base) T
  refine cal_of T.d_shown sc_shown (fun _ _ _ _ _ _ us hl => match us, hl with | [_, _, _, _], _ => rfl) (fun vs H Q E h => ?_) (fun f cdv A outer s H vs Q E hr h => ?_)
  · obtain ⟨a, S, o, c, sm, ws, d, val, vw, rfl, _⟩ := h
    rfl
  · obtain ⟨a, S, o, c, sm, ws, d, val, vw, rfl, stg, ok, few, on, ec, dc, smok, sm2, ed, dd, q⟩ := h
    refine ⟨_, (pss_cons (ps_expr (C8.pe_c c_check_plain hr (by decide) (by rfl) (pa_cons (pv 0) pa_nil)))
      (pss_cons (ps_for PassesOwn.never rfl (pi_list (C8.pe_c c_cases hr (by decide) (by rfl) (pa_cons (pv 0) (pa_cons (pv 1) (pa_cons (pv 2) pa_nil))))) (pg_two (K := K) (i := 4) (j := 5) rfl rfl sc_shown.nd rfl rfl (by first | exact Or.inl rfl | exact Or.inr rfl) (by first | exact Or.inl rfl | exact Or.inr rfl) (by first | exact Or.inl rfl | exact Or.inr rfl) (by first | exact Or.inl rfl | exact Or.inr rfl)) (pss_one (ps_if (pt_cmpR (op_eqN hr.units) (pv 4) (pv 3) (nomark _)) (pss_one (ps_ret (C8.pe_c c_state_with hr (by decide) (by rfl) (pa_cons (pv 0) (pa_cons (pv 1) (pa_cons (pv 5) pa_nil)))))) pss_nil)))
      (pss_one (ps_ret pe_non)))), ?_⟩
    refine ⟨_, rfl, a, S, rfl, stg, ok, few, fun H1 s1 => ?_⟩
    refine ⟨_, rfl, _, rfl, _, rfl, a, S, o, c, sm, ws, rfl, stg.same s1, ok, few, s1 _ _ ec, dc.mono (.of_same s1), smok, sm2, fun H2 l qs s2 el dl => ?_⟩
    have s12 := s1.trans s2
    refine ⟨l, rfl, ⟨_, .of el⟩, for_list (xs := qs) (fun i σ H' => ∃ x y, σ = [some (.ref a), some (.int (o : Nat)), some (.ref c), some (.ref d), x, y] ∧ L2.Same H2 H' ∧ ∀ cs ∈ (caseL S o sm).take i, cs.1 ≠ val) ⟨_, _, rfl, Same.refl _, by simp⟩ (fun i σ H' _ ⟨_, _, _, s, _⟩ => .of (s _ _ el)) ?_ ?_⟩
    · rintro i x σ H3 hx ⟨_, _, rfl, s3, no⟩
      obtain ⟨cs, hcs, dcs⟩ := dvsC dl hx
      obtain ⟨e, y, z, rfl, ee, dy, dz⟩ := dCase (dcs.mono (.of_same s3))
      have s13 := s12.trans s3
      refine ⟨_, _, rfl, .of ee, rfl, _, _, rfl, _, _, rfl, rfl, _, rfl, _, rfl, cs.1.map eR, val.map eR, dy, .tup (s13 _ _ ed) (dd.mono (.of_same s13)), dep_eRow _, _, rfl, ?_⟩
      refine ite2 (fun hb => ?_) (fun hb => ?_)
      · have e1 : cs.1 = val := mapR_inj.mp (of_decide_eq_true hb)
        have hm := List.mem_of_getElem? hcs
        obtain ⟨g, gw, rfl, eg, dg⟩ := dRow dz
        obtain ⟨h1, h2⟩ := case_held ok few smok sm2 hm
        exact ⟨_, rfl, _, rfl, _, rfl, a, S, o, g, cs.2, gw, rfl, stg.same s13, ok, on, eg, dg, h1, h2, fun H' p s' => q H' _ (s13.trans s') (.inr ⟨⟨p, rfl⟩, (case_shows ok smok).mp ⟨cs, hm, e1⟩⟩)⟩
      · refine ⟨_, _, rfl, s3, fun c2 hc2 => ?_⟩
        rw [take_snoc hcs] at hc2
        rcases List.mem_append.mp hc2 with hc2 | hc2
        · exact no c2 hc2
        · rw [List.mem_singleton.mp hc2]
          exact fun e => hb (decide_eq_true (mapR_inj.mpr e))
    · rintro σ H3 ⟨_, _, rfl, s3, no⟩
      have len : qs.length = (caseL S o sm).length := by rw [← dl.len, List.length_map]
      rw [len, List.take_length] at no
      exact q H3 .non (s12.trans s3) (.inl ⟨rfl, fun hs => by
        obtain ⟨cs, hm, e⟩ := (case_shows ok smok).mpr hs
        exact no cs hm e⟩)
theorem sc_within : FnScope ["setting", "one", "other", "owner", "later"] ["setting", "one", "other"] (defScope t_within) := ⟨rfl, rfl, rfl, by decide +kernel, rfl, by decide +kernel, by decide +kernel⟩
theorem ok_within (T : Txt K mg CP CS) : C8.Cal P w K mg base 10 "within" (sp_within CP CS) [] := by
  have c_check_plain := ok_check_plain (P := P) (w := w) (base := base) T
  have c_shown := ok_shown (P := P) (w := w) (base := base) T
  have p_policy := ok_S_policy (P := P) (w := w) (base := base) T
  have p_owners := ok_P_owners (P := P) (w := w) (base := base) T
  refine cal_of T.d_within sc_within (fun _ _ _ _ _ _ us hl => match us, hl with | [_, _, _], _ => rfl) (fun vs H Q E h => ?_) (fun f cdv A outer s H vs Q E hr h => ?_)
  · obtain ⟨a, S, r1, r2, v1, v2, rfl, _⟩ := h
    rfl
  · obtain ⟨a, S, r1, r2, v1, v2, rfl, stg, ok, few, d1, d2, o1, o2, q⟩ := h
    have n6 := ok.n3
    refine ⟨_, (pss_cons (ps_expr (C8.pe_c c_check_plain hr (by decide) (by rfl) (pa_cons (pv 0) pa_nil)))
      (pss_cons (ps_if (pt_cmpR (op_eqN hr.units) (pv 1) (pv 2) (nomark _)) (pss_one (ps_ret pe_non)) pss_nil)
      (pss_cons (ps_for PassesOwn.never rfl (pi_range1 (by rfl) T.b_range (pa_cons (pe_op op_add (pe_pp p_owners hr (by decide) (pe_pp p_policy hr (by decide) (pv 0))) pe_int) pa_nil)) (pg_name (i := 3) sc_within.nd rfl (by first | exact Or.inl rfl | exact Or.inr rfl)) (pss_cons (ps_set (i := 4) sc_within.nd rfl (Or.inl rfl) (C8.pe_c c_shown hr (by decide) (by rfl) (pa_cons (pv 0) (pa_cons (pv 3) (pa_cons (pe_callTy call_tuple_of (by rfl) T.b_tuple bo_tuple (pa_cons (pe_callB (cr_sortN rankedR rfl hr.units) (by rfl) T.b_sorted bo_sorted (pa_cons (pe_lst (pa_cons (pv 1) (pa_cons (pv 2) pa_nil))) pa_nil)) pa_nil)) (pa_cons (pe_tup (pa_cons (pv 1) pa_nil)) pa_nil))))))
      (pss_one (ps_if (pt_cmp (pc_notN (pv 4))) (pss_one (ps_ret (pe_tup (pa_cons (pv 4) (pa_cons (pv 3) pa_nil))))) pss_nil))))
      (pss_one (ps_ret pe_non))))), ?_⟩
    refine ⟨_, rfl, a, S, rfl, stg, ok, few, fun H1 s1 => ?_⟩
    refine ⟨_, rfl, _, rfl, _, _, d1.mono (.of_same s1), d2.mono (.of_same s1), dep_eR r1, _, rfl, ?_⟩
    refine ite2 (fun hb => ?_) (fun hb => ?_)
    · have e : r1 = r2 := eR_inj (congrArg NestedKey.tup (of_decide_eq_true hb))
      exact q H1 .non s1 (.inl ⟨rfl, .inl e⟩)
    · have ne : r1 ≠ r2 := fun e => hb (decide_eq_true (by rw [e]))
      refine ⟨_, rfl, rd_policy (stg.same s1) fun p pol => rd_owners pol ⟨_, _, rfl, rfl, _, rfl, by omega, by omega, ?_⟩⟩
      have eN : (((S.n : Nat) : Int) + 1).toNat = S.n + 1 := by omega
      rw [eN]
      refine for_range (fun i σ H' => ∃ x y, σ = [some (.ref a), some v1, some v2, x, y] ∧ L2.Same H H' ∧ ∀ o, o < i → ¬ Bad S (told S) r1 r2 o) ⟨_, _, rfl, s1, fun o h => absurd h (Nat.not_lt_zero _)⟩ ?_ ?_
      · rintro i σ H2 hi ⟨_, _, rfl, s2, no⟩
        have e0 : (0 : Int) + ((i : Nat) : Int) = ((i : Nat) : Int) := Int.zero_add _
        rw [e0]
        refine ⟨_, rfl, _, rfl, _, rfl, _, rfl, (by show 2 ≤ sizeLine; decide), fun l hl => ?_⟩
        have s3 : L2.Same H2 (upd H2 l (.lst [v1, v2])) := same_upd hl
        obtain ⟨b1, rfl, e1⟩ := dR d1
        obtain ⟨b2, rfl, e2⟩ := dR d2
        have c3 : Cels (upd H2 l (.lst [.ref b1, .ref b2])) [(b1, eR r1), (b2, eR r2)] := fun p hp => by
          rcases List.mem_cons.mp hp with rfl | hp
          · exact d1.mono (.of_same (s2.trans s3))
          · rw [List.mem_singleton.mp hp]
            exact d2.mono (.of_same (s2.trans s3))
        have sm : ∀ r ∈ [r1, r2], Sm r := fun r hr => by
          rcases List.mem_cons.mp hr with rfl | hr
          · exact o1.sm ok.n8 ok.l8
          · rw [List.mem_singleton.mp hr]
            exact o2.sm ok.n8 ok.l8
        refine ⟨l, [(b1, eR r1), (b2, eR r2)], rfl, .inl (.of upd_same), c3, fun p hp => ?_, by show 2 < 64; decide, fun m M hm pm pw => ?_⟩
        · rcases List.mem_cons.mp hp with rfl | hp
          · exact ⟨r1, rfl, sm r1 (by simp)⟩
          · rw [List.mem_singleton.mp hp]
            exact ⟨r2, rfl, sm r2 (by simp)⟩
        · have keys : M.map (·.2) = (srt [r1, r2]).map eR := by
            refine sorted_roles (srt_asc _) (fun k => ?_) ?_ (fun r hr => sm r ((mem_srt sm).mp hr)) pw
            · rw [(pm.map (·.2)).mem_iff]
              constructor
              · intro hk
                have hk : k ∈ [r1, r2].map eR := hk
                obtain ⟨r, hr, rfl⟩ := List.mem_map.mp hk
                exact memR.mpr ((mem_srt sm).mpr hr)
              · intro hk
                obtain ⟨r, hr, rfl⟩ := List.mem_map.mp hk
                exact memR.mpr ((mem_srt sm).mp hr)
            · refine (pm.map (·.2)).nodup_iff.mpr ?_
              show [eR r1, eR r2].Nodup
              simp [eR_inj, ne, fun e : eR r1 = eR r2 => ne (eR_inj e)]
              exact fun h1 h2 => ne (Prod.ext (by omega) (by omega))
          have two := srt_two (sm r1 (by simp)) (sm r2 (by simp)) ne
          have c4 : Cels (upd (upd H2 l (.lst [.ref b1, .ref b2])) m (.lst (M.map cv))) M := fun p hp => (c3 p (pm.mem_iff.mp hp)).mono (tk_upd hm)
          refine ⟨m, _, rfl, .inl ⟨.of upd_same, fun t ht => ?_⟩⟩
          have s4 := sNew (o := .lst (M.map cv)) s3 hm
          have s5 := sNew (o := .tup (M.map cv)) s4 ht
          have et : upd (upd (upd H2 l (.lst [.ref b1, .ref b2])) m (.lst (M.map cv))) t (.tup (M.map cv)) t = some (.tup (M.map cv)) := upd_same
          have dt : DVs (upd (upd (upd H2 l (.lst [.ref b1, .ref b2])) m (.lst (M.map cv))) t (.tup (M.map cv))) ((srt [r1, r2]).map eR) (M.map cv) := by
            rw [← keys]
            exact (cels_dvs c4).mono (tk_upd ht)
          generalize upd (upd (upd H2 l (.lst [.ref b1, .ref b2])) m (.lst (M.map cv))) t (.tup (M.map cv)) = H5 at s5 et dt ⊢
          refine ⟨_, rfl, (by show 1 ≤ sizeLine; decide), fun u hu => ?_⟩
          have s6 := sNew (o := .tup [.ref b1]) s5 hu
          have s06 := s2.trans s6
          have smok : Roles S.n S.l (srt [r1, r2]) := ⟨fun r hr => by
            rcases List.mem_cons.mp ((mem_srt sm).mp hr) with rfl | h
            · exact o1
            · rw [List.mem_singleton.mp h]
              exact o2, srt_asc _⟩
          have l2 : (srt [r1, r2]).length ≤ 2 := by rcases two with e | e <;> rw [e] <;> exact Nat.le_refl _
          refine ⟨a, S, i, t, srt [r1, r2], M.map cv, u, [r1], [.ref b1], rfl, stg.same s06, ok, few, by omega, ?_, dt.mono (tk_upd hu), smok, l2, upd_same, .cons (d1.mono (.of_same s06)) .nil, fun H7 z s7 hz => ?_⟩
          · rw [upd_ne (ne_of_none et hu)]
            exact et
          · have s07 := s06.trans s7
            rw [shows_iff ne two] at hz
            rcases hz with ⟨rfl, nb⟩ | ⟨⟨x, rfl⟩, bad⟩
            · refine ⟨_, rfl, _, rfl, iteF ⟨_, _, rfl, s07, fun o ho => ?_⟩⟩
              rcases Nat.lt_or_ge o i with h | h
              · exact no o h
              · have e : o = i := by omega
                rw [e]
                exact nb
            · refine ⟨_, rfl, _, rfl, iteT ⟨_, rfl, _, rfl, (by show 2 ≤ sizeLine; decide), fun y hy => q _ _ (sNew s07 hy) (.inr ⟨⟨y, rfl⟩, fun inn => ?_⟩)⟩⟩
              rcases inn with e | h
              · exact ne e
              · exact h i (by omega) bad
      · rintro σ H2 ⟨_, _, rfl, s2, no⟩
        exact q H2 .non s2 (.inl ⟨rfl, .inr fun o ho => no o (by omega)⟩)
end
end G53


/-! Holders as bits: rounds over plain functions. -/
namespace G53
open PySem PySem.Spec PyProof.Rows L2

abbrev Bits := Role → Nat
def byK (k : Bits) : Body → Nat
  | .own o => 2 ^ o
  | .rol r => k r
  | .bth r s => k r &&& k s
def setK (k : Bits) (r : Role) (v : Nat) : Bits := fun s => if s = r then v else k s
/-- the round's first grants -/
def nxtF (k : Bits) (gs : List Grant) : Bits := gs.foldl (fun lat g => setK lat g.1 (lat g.1 ||| byK k g.2)) k
theorem nxtF_snoc (k : Bits) (gs : List Grant) (g : Grant) : nxtF k (gs ++ [g]) = setK (nxtF k gs) g.1 (nxtF k gs g.1 ||| byK k g.2) := by
  unfold nxtF
  rw [List.foldl_append]
  rfl
theorem foldl_ge (k : Bits) (gs : List Grant) (lat : Bits) (r : Role) : lat r ≤ gs.foldl (fun lat g => setK lat g.1 (lat g.1 ||| byK k g.2)) lat r := by
  induction gs generalizing lat with
  | nil => exact Nat.le_refl _
  | cons g gs ih =>
    refine Nat.le_trans ?_ (ih _)
    show lat r ≤ if r = g.1 then lat g.1 ||| byK k g.2 else lat r
    split
    · next e =>
      subst e
      exact Nat.left_le_or
    · exact Nat.le_refl _
theorem nxtF_ge (k : Bits) (gs : List Grant) (r : Role) : k r ≤ nxtF k gs r := foldl_ge k gs k r
theorem or_eq_left {x y : Nat} (h : x ||| y = x) (i : Nat) (hi : y.testBit i = true) : x.testBit i = true := by
  rw [← h, Nat.testBit_or, hi, Bool.or_true]
/-- at rest each grant gives nothing new -/
theorem nxtF_rest (k : Bits) : ∀ (gs : List Grant) (r : Role), (∀ g ∈ gs, nxtF k gs g.1 = k g.1) → ∀ g ∈ gs, ∀ i, (byK k g.2).testBit i = true → (k g.1).testBit i = true := by
  intro gs r
  clear r
  refine snoc_ind (P := fun gs : List Grant => (∀ g ∈ gs, nxtF k gs g.1 = k g.1) → ∀ g ∈ gs, ∀ i, (byK k g.2).testBit i = true → (k g.1).testBit i = true) ?_ ?_ gs
  · intro _ g hg
    exact absurd hg (by simp)
  · intro gs h ih rest
    have sq : ∀ r, nxtF k (gs ++ [h]) r = k r → nxtF k gs r = k r := fun r e => by
      have h1 := nxtF_ge k gs r
      have h2 : nxtF k gs r ≤ nxtF k (gs ++ [h]) r := by
        rw [nxtF_snoc]
        unfold setK
        split
        · next e =>
          subst e
          exact Nat.left_le_or
        · exact Nat.le_refl _
      omega
    intro g hg i hi
    rcases List.mem_append.mp hg with hg | hg
    · exact ih (fun g hg => sq g.1 (rest g (List.mem_append_left _ hg))) g hg i hi
    · have e := List.mem_singleton.mp hg
      subst e
      have z := rest g (List.mem_append_right _ (by simp))
      have z1 := sq _ z
      rw [nxtF_snoc] at z
      unfold setK at z
      rw [if_pos rfl, z1] at z
      exact or_eq_left z i hi
/-- what holds of the start, and of each grant's step, holds behind a round -/
theorem nxtF_ind {k : Bits} {J : Bits → Prop} (gs : List Grant) (h0 : J k) (h1 : ∀ lat g, g ∈ gs → J lat → J (setK lat g.1 (lat g.1 ||| byK k g.2))) : J (nxtF k gs) := by
  unfold nxtF
  have key : ∀ (ls : List Grant) (lat : Bits), (∀ g ∈ ls, g ∈ gs) → J lat → J (ls.foldl (fun lat g => setK lat g.1 (lat g.1 ||| byK k g.2)) lat) := by
    intro ls
    induction ls with
    | nil => exact fun _ _ h => h
    | cons g ls ih =>
      intro lat hs hj
      exact ih _ (fun x hx => hs x (List.mem_cons_of_mem _ hx)) (h1 lat g (hs g List.mem_cons_self) hj)
  exact key gs k (fun g hg => hg) h0

section
variable {S : Stg}
/-- the grants of fixed roles -/
def fxG (S : Stg) : List Grant := S.gs.filter fun g => decide (g.1 ∈ S.fx)
def k0 (S : Stg) : Bits := fun r => if r ∈ S.fx then 0 else 2 ^ (S.n + 1) - 1
/-- what stays true of the bits -/
structure Fine (S : Stg) (k : Bits) : Prop where
  lt : ∀ r, k r < 2 ^ (S.n + 1)
  free : ∀ r, r ∉ S.fx → k r = 2 ^ (S.n + 1) - 1
  gr : ∀ r o, (k r).testBit o = true → Gr S o r
theorem fine0 (S : Stg) : Fine S (k0 S) := by
  have p : 0 < 2 ^ (S.n + 1) := Nat.pow_pos (by decide)
  refine ⟨fun r => ?_, fun r hr => ?_, fun r o h => ?_⟩
  · unfold k0
    split <;> omega
  · unfold k0
    rw [if_neg hr]
  · unfold k0 at h
    split at h
    · rw [Nat.zero_testBit] at h
      cases h
    · next hr => exact .free hr
theorem fine_step {S : Stg} {gs : List Grant} (hg : ∀ g ∈ S.gs, OkG S.n S.l g) {k : Bits} (f : Fine S k) : Fine S (nxtF k (fxG S)) := by
  refine nxtF_ind (J := Fine S) _ f fun lat g h fl => ?_
  obtain ⟨h1, h2⟩ := List.mem_filter.mp h
  have h2 := of_decide_eq_true h2
  have by_lt : byK k g.2 < 2 ^ (S.n + 1) := by
    cases hb : g.2 with
    | own p =>
      have q := (hg g h1).2
      rw [hb] at q
      have q : p < S.n := q
      exact Nat.pow_lt_pow_right (by decide) (by omega)
    | rol r => exact f.lt r
    | bth r s => exact Nat.lt_of_le_of_lt Nat.and_le_left (f.lt r)
  refine ⟨fun r => ?_, fun r hr => ?_, fun r o hb => ?_⟩
  · unfold setK
    split
    · exact Nat.or_lt_two_pow (fl.lt _) by_lt
    · exact fl.lt r
  · unfold setK
    rw [if_neg fun e : r = g.1 => hr (by rw [e]; exact h2)]
    exact fl.free r hr
  · unfold setK at hb
    split at hb
    · next e =>
      subst e
      rw [Nat.testBit_or, Bool.or_eq_true] at hb
      rcases hb with hb | hb
      · exact fl.gr _ o hb
      · refine Gr.by (b := g.2) h1 h2 ?_
        cases hg2 : g.2 with
        | own p =>
          rw [hg2] at hb
          have hb : (2 ^ p).testBit o = true := hb
          rw [Nat.testBit_two_pow] at hb
          have hb : p = o := by simpa using hb
          exact hb
        | rol r =>
          rw [hg2] at hb
          exact f.gr r o hb
        | bth r s =>
          rw [hg2] at hb
          have hb : (k r &&& k s).testBit o = true := hb
          rw [Nat.testBit_and, Bool.and_eq_true] at hb
          exact ⟨f.gr r o hb.1, f.gr s o hb.2⟩
    · exact fl.gr r o hb
/-- at rest the bits are the greatest state -/
theorem fine_rest {S : Stg} (hg : ∀ g ∈ S.gs, OkG S.n S.l g) {k : Bits} (f : Fine S k) (rest : ∀ r, OkR (S.n + 1) S.l r → nxtF k (fxG S) r = k r) {r : Role} (hr : OkR (S.n + 1) S.l r) {o : Nat} (ho : o ≤ S.n) : (k r).testBit o = true ↔ Gr S o r := by
  have up : ∀ {s : Role}, OkR S.n S.l s → OkR (S.n + 1) S.l s := fun h => ⟨Nat.lt_succ_of_lt h.1, h.2⟩
  refine ⟨f.gr r o, fun g => ?_⟩
  refine g.least (P := fun r => OkR (S.n + 1) S.l r → (k r).testBit o = true) (fun s hs _ => ?_) (fun s b h1 h2 hb _ => ?_) hr
  · rw [f.free s hs, Nat.testBit_two_pow_sub_one]
    exact decide_eq_true (by omega)
  · have hm : (s, b) ∈ fxG S := List.mem_filter.mpr ⟨h1, decide_eq_true h2⟩
    refine nxtF_rest k (fxG S) s (fun g hg2 => rest _ (up (hg g (List.mem_filter.mp hg2).1).1)) (s, b) hm o ?_
    cases b with
    | own p =>
      have hb : p = o := hb
      show (2 ^ p).testBit o = true
      rw [Nat.testBit_two_pow]
      exact decide_eq_true hb
    | rol t => exact hb (up (hg _ h1).2)
    | bth t u =>
      show (k t &&& k u).testBit o = true
      rw [Nat.testBit_and, hb.1 (up (hg _ h1).2.1), hb.2 (up (hg _ h1).2.2.1)]
      rfl
end
/-- how far the bits are from full -/
def gap (m : Nat) (rs : List Role) (k : Bits) : Nat := (rs.map fun r => 2 ^ m - k r).sum
theorem gap_le {m : Nat} {rs : List Role} {k k' : Bits} (h : ∀ r ∈ rs, k r ≤ k' r) : gap m rs k' ≤ gap m rs k := by
  induction rs with
  | nil => exact Nat.le_refl _
  | cons r rs ih =>
    have h1 := h r List.mem_cons_self
    have h2 := ih fun s hs => h s (List.mem_cons_of_mem _ hs)
    simp only [gap, List.map_cons, List.sum_cons] at *
    omega
theorem gap_lt {m : Nat} {rs : List Role} {k k' : Bits} (h : ∀ r ∈ rs, k r ≤ k' r) (b : ∀ r ∈ rs, k' r < 2 ^ m) (ne : ∃ r ∈ rs, k' r ≠ k r) : gap m rs k' < gap m rs k := by
  induction rs with
  | nil =>
    obtain ⟨r, hr, _⟩ := ne
    cases hr
  | cons r rs ih =>
    have h1 := h r List.mem_cons_self
    have b1 := b r List.mem_cons_self
    have le := gap_le (m := m) (rs := rs) (k := k) (k' := k') fun s hs => h s (List.mem_cons_of_mem _ hs)
    obtain ⟨s, hs, ns⟩ := ne
    rcases List.mem_cons.mp hs with e | hs
    · subst e
      simp only [gap, List.map_cons, List.sum_cons] at *
      omega
    · have h2 := ih (fun s hs => h s (List.mem_cons_of_mem _ hs)) (fun s hs => b s (List.mem_cons_of_mem _ hs)) ⟨s, hs, ns⟩
      simp only [gap, List.map_cons, List.sum_cons] at *
      omega
theorem inj_of {f : Role → Int} : ∀ {l : List Role}, l.Pairwise (fun r s => f r ≠ f s) → ∀ {a b : Role}, a ∈ l → b ∈ l → f a = f b → a = b
  | [], _, _, _, ha, _, _ => absurd ha (by simp)
  | x :: l, h, a, b, ha, hb, e => by
    obtain ⟨h1, h2⟩ := List.pairwise_cons.mp h
    rcases List.mem_cons.mp ha with ea | ha
    · rcases List.mem_cons.mp hb with eb | hb
      · rw [ea, eb]
      · rw [ea] at e
        exact absurd e (h1 b hb)
    · rcases List.mem_cons.mp hb with eb | hb
      · rw [eb] at e
        exact absurd e.symm (h1 a ha)
      · exact inj_of h2 ha hb e
/-- the hashes of the roles differ -/
def hR (r : Role) : Int := reduceHash (Builtin.Tuple.tupleHashOf [hashInt (r.1 : Nat), hashInt (r.2 : Nat)])
theorem hash_eR (w : World) (r : Role) : (eR r).hash w = hR r := rfl
theorem hR_at {a b : Nat} {x y v : Int} (h1 : hashInt (a : Nat) = x) (h2 : hashInt (b : Nat) = y) (h3 : Builtin.Tuple.tupleHashOf [x, y] = v) (h4 : reduceHash v = v) : hR (a, b) = v := by
  unfold hR
  rw [h1, h2, h3, h4]
theorem hR_00 : hR (0, 0) = -8458139203682520985 := hR_at (x := 0) (y := 0) (by decide +kernel) (by decide +kernel) (by decide +kernel) (by decide +kernel)
theorem hR_01 : hR (0, 1) = -1950498447580522560 := hR_at (x := 0) (y := 1) (by decide +kernel) (by decide +kernel) (by decide +kernel) (by decide +kernel)
theorem hR_10 : hR (1, 0) = -5164621852614943976 := hR_at (x := 1) (y := 0) (by decide +kernel) (by decide +kernel) (by decide +kernel) (by decide +kernel)
theorem hR_11 : hR (1, 1) = 8389048192121911274 := hR_at (x := 1) (y := 1) (by decide +kernel) (by decide +kernel) (by decide +kernel) (by decide +kernel)
theorem hR_20 : hR (2, 0) = 4685526799349444076 := hR_at (x := 2) (y := 0) (by decide +kernel) (by decide +kernel) (by decide +kernel) (by decide +kernel)
theorem hR_21 : hR (2, 1) = 6794810172467074373 := hR_at (x := 2) (y := 1) (by decide +kernel) (by decide +kernel) (by decide +kernel) (by decide +kernel)
theorem hR_30 : hR (3, 0) = 2248468952609198383 := hR_at (x := 3) (y := 0) (by decide +kernel) (by decide +kernel) (by decide +kernel) (by decide +kernel)
theorem hR_31 : hR (3, 1) = 8756109708711196808 := hR_at (x := 3) (y := 1) (by decide +kernel) (by decide +kernel) (by decide +kernel) (by decide +kernel)
theorem hR_vals : [(0, 0), (0, 1), (1, 0), (1, 1), (2, 0), (2, 1), (3, 0), (3, 1)].map hR = [-8458139203682520985, -1950498447580522560, -5164621852614943976, 8389048192121911274, 4685526799349444076, 6794810172467074373, 2248468952609198383, 8756109708711196808] := by
  simp only [List.map_cons, List.map_nil, hR_00, hR_01, hR_10, hR_11, hR_20, hR_21, hR_30, hR_31]
theorem allR_42 : allR 4 2 = [(0, 0), (0, 1), (1, 0), (1, 1), (2, 0), (2, 1), (3, 0), (3, 1)] := by decide +kernel
theorem hR_all : ((allR 4 2).map hR).Nodup := by
  rw [allR_42, hR_vals]
  simp
theorem nodup_of {f : Role → Int} (h : ((allR 4 2).map f).Nodup) {n l : Nat} (hn : n ≤ 4) (hl : l ≤ 2) : ((allR n l).map f).Nodup := by
  have inj := List.pairwise_map.mp h
  refine List.pairwise_map.mpr (List.Pairwise.imp_of_mem (R := fun r s => rR r < rR s) (fun {a b} ha hb h => ?_) (allR_asc l (by omega) n))
  have up : ∀ {r : Role}, r ∈ allR n l → r ∈ allR 4 2 := fun h => mem_allR.mpr (let q := mem_allR.mp h; ⟨Nat.lt_of_lt_of_le q.1 hn, Nat.lt_of_lt_of_le q.2 hl⟩)
  have hne : a ≠ b := fun e => by rw [e] at h; exact Nat.lt_irrefl _ h
  exact fun e => hne (inj_of inj (up ha) (up hb) e)
theorem hash_map (w : World) : ∀ rs : List Role, ((rs.map eR).map fun k => k.hash w) = rs.map hR
  | [] => rfl
  | r :: rs => by rw [List.map_cons, List.map_cons, List.map_cons, hash_map w rs, hash_eR]
theorem hash_nodup (w : World) {n l : Nat} (hn : n ≤ 4) (hl : l ≤ 2) : (((allR n l).map eR).map fun k => k.hash w).Nodup := by
  rw [hash_map]
  exact nodup_of hR_all hn hl
end G53

/-! The walk: members, by_body, next_round. -/
namespace G53
open PySem PySem.Spec PyProof.Rows L2

theorem bor (x y : Nat) : Builtin.bitOr (x : Int) (y : Int) = ((x ||| y : Nat) : Int) := by
  rw [bitOr_nn (Int.natCast_nonneg _) (Int.natCast_nonneg _), Int.toNat_natCast, Int.toNat_natCast]
theorem band (x y : Nat) : Builtin.bitAnd (x : Int) (y : Int) = ((x &&& y : Nat) : Int) := by
  rw [bitAnd_pp (Int.natCast_nonneg _) (Int.natCast_nonneg _), Int.toNat_natCast, Int.toNat_natCast]
def kdL (rs : List Role) (k : Bits) : List (NK × V) := rs.map fun r => (eR r, V.int (k r : Nat))
/-- a dict of bits stands at d -/
def KD (P : Program) (w : World) (H : Hp) (d : Addr) (n l : Nat) (k : Bits) : Prop := DMap P w H d (kdL (allR n l) k)
theorem DMap.same {P : Program} {w : World} {H H' : Hp} {a : Addr} {kvs : List (NK × V)} (d : DMap P w H a kvs) (s : L2.Same H H') : DMap P w H' a kvs := by
  refine d.mono (.of_same s) ?_
  obtain ⟨xs, e, _⟩ := d
  rw [e]
  exact s _ _ e
theorem kd_val {rs : List Role} {k : Bits} {r : Role} (h : r ∈ rs) : valV (kdL rs k) (eR r) = some (V.int (k r : Nat)) := by
  induction rs with
  | nil => cases h
  | cons s rs ih =>
    by_cases e : s = r
    · subst e
      exact valV_pos (p := (eR s, V.int (k s : Nat))) rfl
    · have e2 : eR s ≠ eR r := fun z => e (eR_inj z)
      refine (valV_neg (p := (eR s, V.int (k s : Nat))) e2).trans (ih ?_)
      exact (List.mem_cons.mp h).resolve_left fun z => e z.symm
theorem any_key {rs : List Role} {v : Role → V} {r : Role} : ((rs.map fun s => (eR s, v s)).any fun x => decide (x.1 = eR r)) = decide (r ∈ rs) := by
  induction rs with
  | nil => rfl
  | cons s rs ih =>
    rw [List.map_cons, List.any_cons, ih]
    by_cases e : s = r
    · subst e
      simp
    · have e2 : eR s ≠ eR r := fun z => e (eR_inj z)
      have e3 : ¬ r = s := fun z => e z.symm
      simp [e, e3, e2]
theorem kd_put {rs : List Role} {k : Bits} {r : Role} {x : Nat} (h : r ∈ rs) : putK (kdL rs k) (eR r) (V.int (x : Nat)) = kdL rs (setK k r x) := by
  unfold putK kdL
  rw [any_key, if_pos (decide_eq_true h), List.map_map]
  refine List.map_congr_left fun s _ => ?_
  show (if eR s = eR r then (eR s, V.int (x : Nat)) else (eR s, V.int (k s : Nat))) = (eR s, V.int ((if s = r then x else k s : Nat)))
  by_cases e : s = r
  · subst e
    rw [if_pos rfl, if_pos rfl]
  · rw [if_neg fun z => e (eR_inj z), if_neg e]
theorem put_new {rs : List Role} {v : Role → V} {r : Role} {x : V} (h : r ∉ rs) : putK (rs.map fun s => (eR s, v s)) (eR r) x = (rs.map fun s => (eR s, v s)) ++ [(eR r, x)] := by
  unfold putK
  rw [any_key, if_neg (by simpa using h)]
theorem kd_hash (w : World) : ∀ (rs : List Role) (k : Bits), ((kdL rs k).map fun p => p.1.hash w) = rs.map hR
  | [], _ => rfl
  | r :: rs, k => by
    have ih := kd_hash w rs k
    unfold kdL at *
    rw [List.map_cons, List.map_cons, List.map_cons, ih, hash_eR]
theorem pe_get2P {X : Cx} {P : Program} {w : World} {o e f : Expr} {td ty tx : TE} {apos cpos : Pos} (hP : X.prog = P) (hw : X.w = w) (hu : X.A.units + 64 < cLine) (ho : PE X o td) (he : PE X e ty) (hf : PE X f tx) (m : M2 X o "get" apos e f cpos) : PE X (.Call (.Attribute o "get" apos) [e, f] [] cpos) (tGet2N P w td ty tx) := by
  subst hP hw
  exact pe_get2N hu ho he hf m
def sp_members : Sp := fun vs H Q _ => ∃ m : Nat, vs = [.int (m : Nat)] ∧ m < 2 ^ 60 ∧ ∀ (H' : Hp) (t : Addr) (ns : List Int), L2.Same H H' → H' t = some (.tup (ns.map V.int)) → (ns = [] ↔ m = 0) → Q (.ref t) H'
def sp_by_body (P : Program) (w : World) : Sp := fun vs H Q _ => ∃ (b : Body) (v : V) (d : Addr) (n l : Nat) (k : Bits), vs = [v, .ref d] ∧ DV H (eB b) v ∧ KD P w H d n l k ∧ n ≤ 8 ∧ OkB n l b ∧ Q (.int (byK k b : Nat)) H
def sp_next_round (P : Program) (w : World) : Sp := fun vs H Q _ => ∃ (gs : List Grant) (g : Addr) (gws : List V) (d : Addr) (n l : Nat) (k : Bits), vs = [.ref g, .ref d] ∧ H g = some (.lst gws) ∧ DVs H (gs.map eG) gws ∧ KD P w H d n l k ∧ n ≤ 4 ∧ l ≤ 2 ∧ (∀ g ∈ gs, OkG n l g) ∧
  ∀ (H' : Hp) (e : Addr), L2.Same H H' → KD P w H' e n l (nxtF k gs) → Q (.ref e) H'
section
variable {P : Program} {w : World} {K : PySem.W.Frag} {mg : Str → Option Value} {base : Heap} {CP CS : Addr}
theorem sc_members : FnScope ["bits", "found", "owner"] ["bits"] (defScope t_members) := ⟨rfl, rfl, rfl, by decide +kernel, rfl, by decide +kernel, by decide +kernel⟩
theorem ok_members (T : Txt K mg CP CS) : C8.Cal P w K mg base 1 "members" sp_members [] := by
  refine cal_of T.d_members sc_members (fun _ _ _ _ _ _ us hl => match us, hl with | [_], _ => rfl) (fun vs H Q E h => ?_) (fun f cdv A outer s H vs Q E hr h => ?_)
  · obtain ⟨m, rfl, _⟩ := h
    rfl
  · obtain ⟨m, rfl, lt, q⟩ := h
    refine ⟨_, (pss_cons (ps_par (i := 1) (j := 2) rfl sc_members.nd rfl rfl (by decide) rfl rfl (pa_cons (pe_lst pa_nil) (pa_cons pe_int pa_nil)) rfl)
      (pss_cons (ps_while PassesOwn.never (pt_cmpR op_gt (pv 0) pe_int (nomark _)) (pss_cons (ps_if (pt_cmpR op_eq (pe_op op_mod (pv 0) pe_int) pe_int (nomark _)) (pss_one (ps_expr (pe_bm PySem.F.plainAttrs_list PySem.F.slot_list_append PySem.F.type_list_append mt_append (pv 1) (pa_cons (pv 2) pa_nil)))) pss_nil)
      (pss_one (ps_par (i := 0) (j := 2) rfl sc_members.nd rfl rfl (by decide) rfl rfl (pa_cons (pe_op op_fdiv (pv 0) pe_int) (pa_cons (pe_op op_add (pv 2) pe_int) pa_nil)) rfl))))
      (pss_one (ps_ret (pe_callTy call_tuple_of (by rfl) T.b_tuple bo_tuple (pa_cons (pv 1) pa_nil)))))), ?_⟩
    refine ⟨by decide, fun p hp => ⟨_, _, rfl, ?_⟩⟩
    refine while_by (fun σ H' => ∃ (x o : Nat) (ns : List Int), σ = [some (.int (x : Nat)), some (.ref p), some (.int (o : Nat))] ∧ L2.Same H H' ∧ H' p = some (.lst (ns.map V.int)) ∧ x * 2 ^ o ≤ m ∧ ns.length ≤ o ∧ (m = 0 ↔ (ns = [] ∧ x = 0)))
      (fun σ H' => match σ with | some (.int x) :: _ => x.toNat | _ => 0) ⟨m, 0, [], rfl, same_upd hp, upd_same, by simp, Nat.le_refl _, by simp⟩ ?_ ?_
    · rintro σ H1 ⟨x, o, ns, rfl, s1, ep, le, ln, iff⟩
      refine ⟨_, rfl, _, _, rfl, rfl, _, rfl, ?_⟩
      refine ite2 (fun hb => ?_) (fun hb => ?_)
      · have hx : 0 < x := by
          have z := of_decide_eq_true hb
          omega
        have ho : o < 60 := by
          rcases Nat.lt_or_ge o 60 with z | z
          · exact z
          · have h1 : 2 ^ 60 ≤ 2 ^ o := Nat.pow_le_pow_right (by decide) z
            have h2 : 1 * 2 ^ o ≤ x * 2 ^ o := Nat.mul_le_mul_right _ hx
            omega
        have half : x / 2 * 2 ^ (o + 1) ≤ m := by
          refine Nat.le_trans ?_ le
          rw [Nat.pow_succ, Nat.mul_comm (2 ^ o) 2, ← Nat.mul_assoc]
          exact Nat.mul_le_mul_right _ (Nat.div_mul_le_self x 2)
        have fin : ∀ (H2 : Hp) (ns2 : List Int), L2.Same H H2 → H2 p = some (.lst (ns2.map V.int)) → ns2.length ≤ o + 1 → (m = 0 ↔ (ns2 = [] ∧ x / 2 = 0)) → tPar 0 2 (tCons (tOp (rI CDiv fun i j => V.int (i / j)) (tVar 0) (tC (.int 2))) (tCons (tOp (rI0 fun i j => V.int (i + j)) (tVar 2) (tC (.int 1))) tNil))
            { nx := fun σ' H' => (∃ (x o : Nat) (ns : List Int), σ' = [some (.int (x : Nat)), some (.ref p), some (.int (o : Nat))] ∧ L2.Same H H' ∧ H' p = some (.lst (ns.map V.int)) ∧ x * 2 ^ o ≤ m ∧ ns.length ≤ o ∧ (m = 0 ↔ (ns = [] ∧ x = 0))) ∧ (match σ' with | some (.int x) :: _ => x.toNat | _ => 0) < ((x : Nat) : Int).toNat, rt := Q, bk := fun _ _ => False, ct := fun _ _ => False } [some (.int (x : Nat)), some (.ref p), some (.int (o : Nat))] H2 := fun H2 ns2 s2 e2 l2 i2 => by
          refine ⟨_, rfl, _, _, rfl, rfl, by constructor <;> decide, _, rfl, _, _, rfl, rfl, _, _, rfl, ?_⟩
          have e1 : ((x : Nat) : Int) / 2 = ((x / 2 : Nat) : Int) := by omega
          have e2' : ((o : Nat) : Int) + 1 = ((o + 1 : Nat) : Int) := by omega
          dsimp only
          rw [e1, e2']
          refine ⟨⟨x / 2, o + 1, ns2, rfl, s2, e2, half, l2, i2⟩, ?_⟩
          show ((x / 2 : Nat) : Int).toNat < ((x : Nat) : Int).toNat
          omega
        refine ⟨_, rfl, _, _, rfl, rfl, (by decide : (0 : Int) < 2), rfl, _, rfl, ?_⟩
        refine ite2 (fun h1 => ?_) (fun h1 => ?_)
        · refine ⟨_, rfl, .inl ⟨rfl, _, .of ep⟩, _, rfl, p, _, _, rfl, rfl, ep, by rw [List.length_map, sizeLine_eq]; omega, ?_⟩
          refine fin _ (ns ++ [(o : Int)]) (sUp s1 hp) (by rw [upd_same, List.map_append]; rfl) (by rw [List.length_append, List.length_singleton]; omega) ?_
          constructor
          · intro z
            have := (iff.mp z).2
            omega
          · rintro ⟨z, _⟩
            simp at z
        · refine fin _ ns s1 ep (by omega) ?_
          have odd : ¬ x % 2 = 1 := fun z => h1 (decide_eq_true (by
            show V.int (((x : Nat) : Int) % 2) = V.int 1
            rw [show ((x : Nat) : Int) % 2 = 1 by omega]))
          rw [iff]
          constructor
          · rintro ⟨_, z⟩
            omega
          · rintro ⟨_, z⟩
            omega
      · have hx : x = 0 := by
          have z : ¬ (0 : Int) < (x : Nat) := fun z => hb (decide_eq_true z)
          omega
        subst hx
        exact ⟨_, rfl, p, _, rfl, .inl ⟨.of ep, fun t ht => q _ t ns (sNew s1 ht) upd_same (by rw [iff]; simp)⟩⟩
    · rintro σ H1 Q1 Q2 imp ⟨v, hv, i, j, e1, e2, k, e3, hq⟩
      exact ⟨v, hv, i, j, e1, e2, k, e3, imp _ _ hq⟩
theorem sc_by_body : FnScope ["body", "known", "found", "who"] ["body", "known"] (defScope t_by_body) := ⟨rfl, rfl, rfl, by decide +kernel, rfl, by decide +kernel, by decide +kernel⟩
theorem ok_by_body (T : Txt K mg CP CS) : C8.Cal P w K mg base 1 "by_body" (sp_by_body P w) [] := by
  refine cal_of T.d_by_body sc_by_body (fun _ _ _ _ _ _ us hl => match us, hl with | [_, _], _ => rfl) (fun vs H Q E h => ?_) (fun f cdv A outer s H vs Q E hr h => ?_)
  · obtain ⟨b, v, d, n, l, k, rfl, _⟩ := h
    rfl
  · obtain ⟨b, v, d, n, l, k, rfl, db, kd, n8, ok, q⟩ := h
    refine ⟨_, (pss_cons (ps_if (pt_cmpR op_eq (pe_ix ix_tup (pv 0) pe_int (fun _ _ => rfl)) pe_str (nomark _)) (pss_one (ps_ret (pe_op op_shl pe_int (pe_ix ix_tup (pv 0) pe_int (fun _ _ => rfl))))) pss_nil)
      (pss_cons (ps_if (pt_cmpR op_eq (pe_ix ix_tup (pv 0) pe_int (fun _ _ => rfl)) pe_str (nomark _)) (pss_one (ps_ret (pe_ix (ix_dictN hr.units) (pv 1) (pe_ix ix_tup (pv 0) pe_int (fun _ _ => rfl)) (fun _ _ => rfl)))) pss_nil)
      (pss_cons (ps_if (pt_cmpR op_eq (pe_ix ix_tup (pv 0) pe_int (fun _ _ => rfl)) pe_str (nomark _)) (pss_one (ps_ret (pe_op op_and (pe_ix (ix_dictN hr.units) (pv 1) (pe_ix ix_tup (pv 0) pe_int (fun _ _ => rfl)) (fun _ _ => rfl)) (pe_ix (ix_dictN hr.units) (pv 1) (pe_ix ix_tup (pv 0) pe_int (fun _ _ => rfl)) (fun _ _ => rfl))))) pss_nil)
      pss_never))), ?_⟩
    cases b with
    | own o =>
      obtain ⟨a, rfl, e⟩ := dB1 db
      have ok : o < n := ok
      refine ⟨_, rfl, _, _, _, _, rfl, rfl, .of e, rfl, rfl, _, rfl, ifT (by decide +kernel) ⟨_, rfl, _, _, _, _, rfl, rfl, .of e, rfl, _, _, rfl, rfl, ⟨Int.natCast_nonneg _, by omega, by decide⟩, ?_⟩⟩
      have z : (1 : Int) * 2 ^ ((o : Nat) : Int).toNat = ((2 ^ o : Nat) : Int) := by
        rw [Int.one_mul, Int.toNat_natCast]
        push_cast
        rfl
      dsimp only
      rw [z]
      exact q
    | rol r =>
      obtain ⟨a, x, rfl, e, dx⟩ := dB2 db
      refine ⟨_, rfl, _, _, _, _, rfl, rfl, .of e, rfl, rfl, _, rfl, ifF (by decide +kernel) ?_⟩
      refine ⟨_, rfl, _, _, _, _, rfl, rfl, .of e, rfl, rfl, _, rfl, ifT (by decide +kernel) ?_⟩
      exact ⟨_, rfl, _, rfl, _, _, _, _, rfl, rfl, .of e, rfl, d, _, _, _, rfl, kd, dx, dep_eR r, kd_val (mem_allR.mpr ok), q⟩
    | bth r s' =>
      obtain ⟨a, x, y, rfl, e, dx, dy⟩ := dB3 db
      refine ⟨_, rfl, _, _, _, _, rfl, rfl, .of e, rfl, rfl, _, rfl, ifF (by decide +kernel) ?_⟩
      refine ⟨_, rfl, _, _, _, _, rfl, rfl, .of e, rfl, rfl, _, rfl, ifF (by decide +kernel) ?_⟩
      refine ⟨_, rfl, _, _, _, _, rfl, rfl, .of e, rfl, rfl, _, rfl, ifT (by decide +kernel) ?_⟩
      refine ⟨_, rfl, _, rfl, _, _, _, _, rfl, rfl, .of e, rfl, d, _, _, _, rfl, kd, dx, dep_eR r, kd_val (mem_allR.mpr ok.1), _, rfl, _, rfl, _, _, _, _, rfl, rfl, .of e, rfl, d, _, _, _, rfl, kd, dy, dep_eR s', kd_val (mem_allR.mpr ok.2.1), _, _, rfl, rfl, ?_⟩
      dsimp only
      rw [band]
      exact q
theorem sc_next_round : FnScope ["grants", "known", "later", "role", "body"] ["grants", "known"] (defScope t_next_round) := ⟨rfl, rfl, rfl, by decide +kernel, rfl, by decide +kernel, by decide +kernel⟩
theorem ok_next_round (T : Txt K mg CP CS) : C8.Cal P w K mg base 2 "next_round" (sp_next_round P w) [] := by
  have c_by_body := ok_by_body (P := P) (w := w) (base := base) T
  refine cal_of T.d_next_round sc_next_round (fun _ _ _ _ _ _ us hl => match us, hl with | [_, _], _ => rfl) (fun vs H Q E h => ?_) (fun f cdv A outer s H vs Q E hr h => ?_)
  · obtain ⟨gs, g, gws, d, n, l, k, rfl, _⟩ := h
    rfl
  · obtain ⟨gs, g, gws, d, n, l, k, rfl, eg, dg, kd, n4, l2, ok, q⟩ := h
    refine ⟨_, (pss_cons (ps_set (i := 2) sc_next_round.nd rfl (Or.inl rfl) (pe_callTy (cr_dictN hr.units) (by rfl) T.b_dict bo_dict (pa_cons (pv 1) pa_nil)))
      (pss_cons (ps_for PassesOwn.never rfl (pi_list (pv 0)) (pg_two (K := K) (i := 3) (j := 4) rfl rfl sc_next_round.nd rfl rfl (by first | exact Or.inl rfl | exact Or.inr rfl) (by first | exact Or.inl rfl | exact Or.inr rfl) (by first | exact Or.inl rfl | exact Or.inr rfl) (by first | exact Or.inl rfl | exact Or.inr rfl)) (pss_one (ps_asg (pe_op op_or (pe_ix (ix_dictN hr.units) (pv 2) (pv 3) (fun _ _ => rfl)) (C8.pe_c c_by_body hr (by decide) (by rfl) (pa_cons (pv 4) (pa_cons (pv 1) pa_nil)))) (pg_sub (pv 2) (pv 3) (set_dictN hr.units)))))
      (pss_one (ps_ret (pv 2))))), ?_⟩
    refine ⟨_, rfl, d, _, rfl, kd, by rw [kd_hash, ← hash_map w]; exact hash_nodup w n4 l2, fun e oe he dm => ?_⟩
    have s0 : L2.Same H (upd H e oe) := same_upd he
    refine ⟨_, rfl, g, rfl, ⟨_, .of (s0 _ _ eg)⟩, for_list (xs := gws) (fun i σ H' => ∃ x y, σ = [some (.ref g), some (.ref d), some (.ref e), x, y] ∧ L2.Same H H' ∧ KD P w H' e n l (nxtF k (gs.take i))) ⟨_, _, rfl, s0, dm⟩ (fun i σ H' _ ⟨_, _, _, s, _⟩ => .of (s _ _ eg)) ?_ ?_⟩
    · rintro i x σ H1 hx ⟨_, _, rfl, s1, kd1⟩
      obtain ⟨gr, hg, dgr⟩ := dvsG dg hx
      obtain ⟨t, y, z, rfl, et, dy, dz⟩ := dG (dgr.mono (.of_same s1))
      have okg := ok gr (List.mem_of_getElem? hg)
      have hm : gr.1 ∈ allR n l := mem_allR.mpr okg.1
      have kdd : KD P w H1 d n l k := kd.same s1
      refine ⟨_, _, rfl, .of et, rfl, _, _, rfl, _, _, rfl, rfl, _, rfl, _, rfl, e, _, _, _, rfl, kd1, dy, dep_eR _, kd_val hm, _, rfl, _, rfl, gr.2, z, d, n, l, k, rfl, dz, kdd, by omega, okg.2, _, _, rfl, rfl, ?_⟩
      dsimp only
      rw [bor]
      refine ⟨_, rfl, _, rfl, e, _, _, rfl, kd1, dy, dep_eR _, ?_, fun o' dm' tk => ⟨_, _, rfl, sUp s1 he, ?_⟩⟩
      · unfold kdL
        rw [List.length_map, allR_len]
        have := Nat.mul_le_mul n4 l2
        omega
      · rw [kd_put hm] at dm'
        rw [take_snoc hg, nxtF_snoc]
        exact dm'
    · rintro σ H1 ⟨_, _, rfl, s1, kd1⟩
      have len : gws.length = gs.length := by rw [← dg.len, List.length_map]
      rw [len, List.take_length] at kd1
      exact ⟨_, rfl, q H1 e s1 kd1⟩
end
end G53


/-! The walk: spread, greatest_bits. -/
namespace G53
open PySem PySem.Spec PyProof.Rows L2

/-- a dict comprehension over a tuple that stays -/
theorem dcN_tup {P : Program} {w : World} {K : PySem.W.Frag} {a : Addr} {xs : List V} {g : TG} {tk tv : TE} {vs : List Nat} {σ : L2.St} {H1 : Hp} {D : Addr} {Qd : Hp → Prop} (Pv : Nat → Hp → Prop) (h0 : ∀ o, DMap P w (upd H1 D o) D [] → Pv 0 (upd H1 D o)) (hl : ∀ i H, i ≤ xs.length → Pv i H → SqT K H a xs)
    (hs : ∀ i x H, xs[i]? = some x → Pv i H → g x (wipe σ vs) H fun σ2 H2 => wipe σ2 vs = wipe σ vs ∧ tk σ2 H2 fun y H4 => tv σ2 H4 fun z H5 => ∃ kvs l, DMap P w H5 D kvs ∧ DV H5 (.tup l) y ∧ (NestedKey.tup l).depth ≤ 8 ∧ kvs.length < 1000 ∧ ∀ o, DMap P w (upd H5 D o) D (putK kvs (.tup l) z) → Tk H5 (upd H5 D o) → Pv (i + 1) (upd H5 D o)) (hd : ∀ H, Pv xs.length H → Qd H) :
    ∃ W : Nat → Nat → Hp → Prop, (∀ o, DMap P w (upd H1 D o) D [] → ∃ m, W 0 m (upd H1 D o)) ∧ ∀ i m H, W i m H → ((Itt K a).stop i H ∧ Qd H) ∨ ((Itt K a).go i H ∧ ∃ Nx : Hp → Prop, (∀ H', Nx H' → ∃ m', m' < m ∧ W (i + 1) m' H') ∧ ∀ x H', (Itt K a).yld i H x H' → g x (wipe σ vs) H' fun σ2 H2 => wipe σ2 vs = wipe σ vs ∧
      tk σ2 H2 fun y H4 => tv σ2 H4 fun z H5 => ∃ kvs l, DMap P w H5 D kvs ∧ DV H5 (.tup l) y ∧ (NestedKey.tup l).depth ≤ 8 ∧ kvs.length < 1000 ∧ ∀ o, DMap P w (upd H5 D o) D (putK kvs (.tup l) z) → Tk H5 (upd H5 D o) → Nx (upd H5 D o)) := by
  refine ⟨fun i m H => m = xs.length - i ∧ i ≤ xs.length ∧ Pv i H, fun o d => ⟨xs.length, by simp, Nat.zero_le _, h0 o d⟩, ?_⟩
  rintro i m H ⟨rfl, hi, p⟩
  have q := hl i H hi p
  by_cases lt : i < xs.length
  · refine .inr ⟨⟨xs, xs[i], q, by simp [lt]⟩, Pv (i + 1), fun H' p' => ⟨xs.length - (i + 1), by omega, rfl, lt, p'⟩, fun x H' y => ?_⟩
    obtain ⟨e, y⟩ := y
    subst e
    exact hs i x _ (y xs q) p
  · have e : i = xs.length := by omega
    subst e
    exact .inl ⟨⟨xs, q, Nat.le_refl _⟩, hd H p⟩
def bitsI (rs : List Role) (k : Bits) : List (NK × Int) := rs.map fun r => (eR r, ((k r : Nat) : Int))
theorem bitsI_V (rs : List Role) (k : Bits) : numsV (bitsI rs k) = kdL rs k := by
  unfold numsV bitsI kdL
  rw [List.map_map]
  rfl
theorem bitsI_keys (rs : List Role) (k k' : Bits) : (bitsI rs k).map (·.1) = (bitsI rs k').map (·.1) := by
  unfold bitsI
  rw [List.map_map, List.map_map]
  rfl
theorem bitsI_eq {rs : List Role} {k k' : Bits} : bitsI rs k = bitsI rs k' ↔ ∀ r ∈ rs, k r = k' r := by
  unfold bitsI
  rw [List.map_inj_left]
  constructor
  · intro h r hr
    have z := congrArg Prod.snd (h r hr)
    exact Int.ofNat.inj z
  · intro h r hr
    rw [h r hr]
/-- what is held from the beginning -/
def begun (S : Stg) (rs : List Role) : List (NK × V) := (rs.filter fun r => !decide (r ∈ S.fx)).map fun r => (eR r, V.int ((2 ^ (S.n + 1) - 1 : Nat) : Int))
theorem begun_val {S : Stg} {rs : List Role} {r : Role} (h : r ∈ rs) : (valV (begun S rs) (eR r)).getD (V.int 0) = V.int ((k0 S r : Nat) : Int) := by
  unfold begun k0
  by_cases hf : r ∈ S.fx
  · have e : valV ((rs.filter fun r => !decide (r ∈ S.fx)).map fun r => (eR r, V.int ((2 ^ (S.n + 1) - 1 : Nat) : Int))) (eR r) = none := by
      clear h
      induction rs with
      | nil => rfl
      | cons s rs ih =>
        by_cases hs : s ∈ S.fx
        · rw [List.filter_cons_of_neg (by simp [hs])]
          exact ih
        · rw [List.filter_cons_of_pos (by simp [hs]), List.map_cons]
          refine (valV_neg ?_).trans ih
          exact fun z => hs (eR_inj z ▸ hf)
    rw [e, if_pos hf]
    rfl
  · rw [if_neg hf]
    have hm : r ∈ rs.filter fun r => !decide (r ∈ S.fx) := List.mem_filter.mpr ⟨h, by simp [hf]⟩
    have e := kd_val (k := fun _ => 2 ^ (S.n + 1) - 1) hm
    unfold kdL at e
    rw [e]
    rfl
/-- the grants among gs with p, the first k looked at, in a new list -/
def FilG (H : Hp) (D : Addr) (p : Grant → Bool) (gs : List Grant) (k : Nat) (H' : Hp) : Prop := L2.Same H H' ∧ H D = none ∧ ∃ fs, H' D = some (.lst fs) ∧ DVs H' (((gs.take k).filter p).map eG) fs
theorem FilG.nil {H : Hp} {D : Addr} {p : Grant → Bool} {gs : List Grant} (hD : H D = none) : FilG H D p gs 0 (upd H D (.lst [])) := ⟨same_upd hD, hD, [], upd_same, .nil⟩
theorem FilG.keep {H H1 : Hp} {D : Addr} {p : Grant → Bool} {gs : List Grant} {k : Nat} {g : Grant} {x : V} (h : FilG H D p gs k H1) (hg : gs[k]? = some g) (hp : p g = true) (few : gs.length ≤ 1000) (d : DV H1 (eG g) x) :
    ∃ acc, H1 D = some (.lst acc) ∧ acc.length < sizeLine ∧ FilG H D p gs (k + 1) (upd H1 D (.lst (acc ++ [x]))) := by
  obtain ⟨s1, hD, fs, e, df⟩ := h
  have tp := tk_put (o := .lst (fs ++ [x])) e
  refine ⟨fs, e, ?_, sUp s1 hD, hD, _, upd_same, ?_⟩
  · rw [← df.len, List.length_map, sizeLine_eq]
    have := List.length_filter_le p (gs.take k)
    rw [List.length_take] at this
    omega
  · rw [take_snoc hg, List.filter_append, List.filter_cons_of_pos hp, List.filter_nil, List.map_append]
    exact (df.snoc d).mono tp
theorem FilG.skip {H H1 : Hp} {D : Addr} {p : Grant → Bool} {gs : List Grant} {k : Nat} {g : Grant} (h : FilG H D p gs k H1) (hg : gs[k]? = some g) (hp : p g = false) : FilG H D p gs (k + 1) H1 := by
  obtain ⟨s1, hD, fs, e, df⟩ := h
  refine ⟨s1, hD, fs, e, ?_⟩
  rw [take_snoc hg, List.filter_append, List.filter_cons_of_neg (by rw [hp]; exact Bool.false_ne_true), List.filter_nil, List.append_nil]
  exact df
def sp_spread (P : Program) (w : World) : Sp := fun vs H Q _ => ∃ (S : Stg) (g : Addr) (gws : List V) (b : Addr), vs = [.int ((S.n + 1 : Nat) : Int), .int (S.l : Nat), .ref g, .ref b] ∧ OkS S ∧ H g = some (.lst gws) ∧ DVs H ((fxG S).map eG) gws ∧ DMap P w H b (begun S (allR (S.n + 1) S.l)) ∧
  ∀ (H' : Hp) (d : Addr) (k : Bits), L2.Same H H' → KD P w H' d (S.n + 1) S.l k → Fine S k → (∀ r, OkR (S.n + 1) S.l r → nxtF k (fxG S) r = k r) → Q (.ref d) H'
def sp_greatest_bits (P : Program) (w : World) (CP : Addr) : Sp := fun vs H Q _ => ∃ (S : Stg) (p f : Addr) (fs : List V), vs = [.ref p, .ref f] ∧ OkS S ∧ PolD CP H p S.n S.l S.gs ∧ H f = some (.tup fs) ∧ DVs H (S.fx.map eR) fs ∧
  ∀ (H' : Hp) (d : Addr) (k : Bits), L2.Same H H' → KD P w H' d (S.n + 1) S.l k → (∀ r, k r < 2 ^ (S.n + 1)) → (∀ r, OkR (S.n + 1) S.l r → ∀ o, o ≤ S.n → ((k r).testBit o = true ↔ Gr S o r)) → Q (.ref d) H'
theorem allR_nodup {n l : Nat} (hl : l ≤ 8) : (allR n l).Nodup := asc_nodup (allR_asc l hl n)
theorem not_before {α : Type} {l : List α} (h : l.Nodup) {i : Nat} {x : α} (hx : l[i]? = some x) : x ∉ l.take i := fun hm => by
  obtain ⟨j, hj⟩ := List.mem_iff_getElem?.mp hm
  have lt : j < i := by
    have z := (List.getElem?_eq_some_iff.mp hj).1
    rw [List.length_take] at z
    omega
  rw [List.getElem?_take_of_lt lt] at hj
  exact (pw_at (R := fun a b => a ≠ b) h hj hx lt) rfl
section
variable {P : Program} {w : World} {K : PySem.W.Frag} {mg : Str → Option Value} {base : Heap} {CP CS : Addr}
theorem sc_spread : FnScope ["owners", "labels", "grants", "begun", "known", "later", "role"] ["owners", "labels", "grants", "begun"] (defScope t_spread) := ⟨rfl, rfl, rfl, by decide +kernel, rfl, by decide +kernel, by decide +kernel⟩
theorem ok_spread (T : Txt K mg CP CS) : C8.Cal P w K mg base 3 "spread" (sp_spread P w) [] := by
  have c_all_roles := ok_all_roles (P := P) (w := w) (base := base) T
  have c_next_round := ok_next_round (P := P) (w := w) (base := base) T
  refine cal_of T.d_spread sc_spread (fun _ _ _ _ _ _ us hl => match us, hl with | [_, _, _, _], _ => rfl) (fun vs H Q E h => ?_) (fun f cdv A outer s H vs Q E hr h => ?_)
  · obtain ⟨S, g, gws, b, rfl, _⟩ := h
    rfl
  · obtain ⟨S, g, gws, b, rfl, ok, eg, dg, db, q⟩ := h
    have n3 := ok.n3
    have l2 := ok.l2
    have rnd : (allR (S.n + 1) S.l).Nodup := allR_nodup ok.l8
    have rlen : (allR (S.n + 1) S.l).length ≤ 8 := by
      rw [allR_len]
      exact Nat.mul_le_mul (show S.n + 1 ≤ 4 by omega) l2
    have okg : ∀ g ∈ fxG S, OkG (S.n + 1) S.l g := fun g hg => (ok.gs.1 g (List.mem_filter.mp hg).1).mono (Nat.le_succ _)
    refine ⟨_, (pss_cons (ps_setDcN (i := 4) hr.units rfl sc_spread.nd rfl rfl (swN rfl rfl rfl (by decide +kernel)) (pi_tup (C8.pe_c c_all_roles hr (by decide) (by rfl) (pa_cons (pv 0) (pa_cons (pv 1) pa_nil)))) (blkOk_by (own := [("role", 6)]) (by show blkC ["owners", "labels", "grants", "begun", "known", "later", "role"] (defScope t_spread) _ _ = true; decide +kernel)) (fun _ _ _ _ _ => (pg_name (i := 6) sc_spread.nd rfl (by first | exact Or.inl rfl | exact Or.inr rfl))) (fun _ _ _ _ _ => (pv 6)) (fun _ _ _ _ _ => (pe_get2P (P := P) (w := w) rfl rfl hr.units (pv 3) (pv 6) pe_int ⟨rfl, rfl, rfl, rfl⟩)))
      (pss_cons (ps_set (i := 5) sc_spread.nd rfl (Or.inl rfl) (C8.pe_c c_next_round hr (by decide) (by rfl) (pa_cons (pv 2) (pa_cons (pv 4) pa_nil))))
      (pss_cons (ps_while PassesOwn.never (pt_cmpR (op_neN hr.units) (pv 5) (pv 4) (nomark _)) (pss_cons (ps_set (i := 4) sc_spread.nd rfl (Or.inl rfl) (pv 5))
      (pss_one (ps_set (i := 5) sc_spread.nd rfl (Or.inl rfl) (C8.pe_c c_next_round hr (by decide) (by rfl) (pa_cons (pv 2) (pa_cons (pv 4) pa_nil)))))))
      (pss_one (ps_ret (pv 4)))))), ?_⟩
    refine ⟨_, rfl, _, rfl, S.n + 1, S.l, rfl, by omega, by omega, fun H1 t tw s1 et dt => ⟨t, rfl, ⟨_, .of et⟩, fun D hD => ?_⟩⟩
    have ltw : tw.length = (allR (S.n + 1) S.l).length := by rw [← dt.len, List.length_map]
    refine dcN_tup (xs := tw) (fun i H' => L2.Same H1 H' ∧ H1 D = none ∧ DMap P w H' D (kdL ((allR (S.n + 1) S.l).take i) (k0 S))) (fun o dm => ⟨same_upd hD, hD, dm⟩) (fun i H' _ t' => .of (t'.1 _ _ et)) ?_ ?_
    · rintro i x H2 hx ⟨s2, _, dm⟩
      obtain ⟨r, hr, dr⟩ := dvsR dt hx
      have hm := List.mem_of_getElem? hr
      have dr2 : DV H2 (eR r) x := dr.mono (.of_same s2)
      have b2 : DMap P w H2 b (begun S (allR (S.n + 1) S.l)) := db.same (s1.trans s2)
      refine ⟨rfl, _, rfl, _, rfl, b, rfl, ⟨_, b2⟩, _, rfl, _, _, b2, dr2, dep_eR r, ?_⟩
      rw [begun_val hm]
      refine ⟨_, _, dm, dr2, dep_eR r, ?_, fun o dm2 tk => ⟨sUp s2 hD, hD, ?_⟩⟩
      · unfold kdL
        rw [List.length_map, List.length_take]
        omega
      · have nb := not_before rnd hr
        have e := put_new (v := fun s => V.int ((k0 S s : Nat) : Int)) (x := V.int ((k0 S r : Nat) : Int)) nb
        unfold kdL at dm2 ⊢
        rw [e] at dm2
        rw [take_snoc hr, List.map_append]
        exact dm2
    · rintro H2 ⟨s2, _, dm⟩
      rw [ltw, List.take_length] at dm
      have s12 := s1.trans s2
      refine ⟨_, rfl, _, rfl, fxG S, g, gws, D, S.n + 1, S.l, k0 S, rfl, s12 _ _ eg, dg.mono (.of_same s12), dm, by omega, l2, okg, fun H3 e s3 kd => ?_⟩
      have s13 := s12.trans s3
      refine ⟨fun m σ H' => ∃ (k : Bits) (a1 a2 : Addr), σ = [some (.int ((S.n + 1 : Nat) : Int)), some (.int (S.l : Nat)), some (.ref g), some (.ref b), some (.ref a1), some (.ref a2), none] ∧ L2.Same H H' ∧ KD P w H' a1 (S.n + 1) S.l k ∧ KD P w H' a2 (S.n + 1) S.l (nxtF k (fxG S)) ∧ Fine S k ∧ m = gap (S.n + 1) (allR (S.n + 1) S.l) k,
        ⟨_, k0 S, D, e, rfl, s13, DMap.same dm s3, kd, fine0 S, rfl⟩, ?_⟩
      rintro m σ H4 ⟨k, a1, a2, rfl, s4, kd1, kd2, fine, rfl⟩
      have k1 : DMap P w H4 a1 (numsV (bitsI (allR (S.n + 1) S.l) k)) := by
        rw [bitsI_V]
        exact kd1
      have k2 : DMap P w H4 a2 (numsV (bitsI (allR (S.n + 1) S.l) (nxtF k (fxG S)))) := by
        rw [bitsI_V]
        exact kd2
      refine ⟨_, rfl, _, rfl, a2, a1, _, _, rfl, rfl, k2, k1, bitsI_keys _ _ _, _, rfl, ?_⟩
      refine ite2 (fun hb => ?_) (fun hb => ?_)
      · have ne : ∃ r ∈ allR (S.n + 1) S.l, nxtF k (fxG S) r ≠ k r := by
          have z : ¬ bitsI (allR (S.n + 1) S.l) (nxtF k (fxG S)) = bitsI (allR (S.n + 1) S.l) k := by simpa using hb
          rw [bitsI_eq] at z
          exact Classical.byContradiction fun no => z fun r hr => Classical.byContradiction fun h => no ⟨r, hr, h⟩
        have fine2 := fine_step (gs := S.gs) ok.gs.1 fine
        refine ⟨fun σ' H' => ∃ (a2' : Addr), σ' = [some (.int ((S.n + 1 : Nat) : Int)), some (.int (S.l : Nat)), some (.ref g), some (.ref b), some (.ref a2), some (.ref a2'), none] ∧ L2.Same H H' ∧ KD P w H' a2 (S.n + 1) S.l (nxtF k (fxG S)) ∧ KD P w H' a2' (S.n + 1) S.l (nxtF (nxtF k (fxG S)) (fxG S)), ?_, ?_⟩
        · rintro σ' H' ⟨a2', rfl, s', kda, kdb⟩
          exact ⟨_, gap_lt (fun r _ => nxtF_ge k (fxG S) r) (fun r _ => fine2.lt r) ne, nxtF k (fxG S), a2, a2', rfl, s', kda, kdb, fine2, rfl⟩
        · refine ⟨_, rfl, _, rfl, _, rfl, fxG S, g, gws, a2, S.n + 1, S.l, nxtF k (fxG S), rfl, s4 _ _ eg, dg.mono (.of_same s4), kd2, by omega, l2, okg, fun H5 e5 s5 kd5 => ⟨e5, rfl, s4.trans s5, DMap.same kd2 s5, kd5⟩⟩
      · refine ⟨_, rfl, q H4 a1 k s4 kd1 fine fun r hr => ?_⟩
        have z : bitsI (allR (S.n + 1) S.l) (nxtF k (fxG S)) = bitsI (allR (S.n + 1) S.l) k := by simpa using hb
        exact bitsI_eq.mp z r (mem_allR.mpr hr)
theorem sc_greatest_bits : FnScope ["policy", "fixed", "owners", "begun", "role", "grant"] ["policy", "fixed"] (defScope t_greatest_bits) := ⟨rfl, rfl, rfl, by decide +kernel, rfl, by decide +kernel, by decide +kernel⟩
theorem ok_greatest_bits (T : Txt K mg CP CS) : C8.Cal P w K mg base 4 "greatest_bits" (sp_greatest_bits P w CP) [] := by
  have c_all_roles := ok_all_roles (P := P) (w := w) (base := base) T
  have c_spread := ok_spread (P := P) (w := w) (base := base) T
  have p_owners := ok_P_owners (P := P) (w := w) (base := base) T
  have p_labels := ok_P_labels (P := P) (w := w) (base := base) T
  have p_grants := ok_P_grants (P := P) (w := w) (base := base) T
  refine cal_of T.d_greatest_bits sc_greatest_bits (fun _ _ _ _ _ _ us hl => match us, hl with | [_, _], _ => rfl) (fun vs H Q E h => ?_) (fun f cdv A outer s H vs Q E hr h => ?_)
  · obtain ⟨S, p, f, fs, rfl, _⟩ := h
    rfl
  · obtain ⟨S, p, f, fs, rfl, ok, pol, ef, df, q⟩ := h
    have n3 := ok.n3
    have l2 := ok.l2
    have gfew := ok.few
    have rnd : (allR (S.n + 1) S.l).Nodup := allR_nodup ok.l8
    have rlen : (allR (S.n + 1) S.l).length ≤ 8 := by
      rw [allR_len]
      exact Nat.mul_le_mul (show S.n + 1 ≤ 4 by omega) l2
    refine ⟨_, (pss_cons (ps_par (i := 2) (j := 3) rfl sc_greatest_bits.nd rfl rfl (by decide) rfl rfl (pa_cons (pe_op op_add (pe_pp p_owners hr (by decide) (pv 0)) pe_int) (pa_cons pe_newN pa_nil)) rfl)
      (pss_cons (ps_for PassesOwn.never rfl (pi_tup (C8.pe_c c_all_roles hr (by decide) (by rfl) (pa_cons (pv 2) (pa_cons (pe_pp p_labels hr (by decide) (pv 0)) pa_nil)))) (pg_name (i := 4) sc_greatest_bits.nd rfl (by first | exact Or.inl rfl | exact Or.inr rfl)) (pss_one (ps_if (pt_cmpR (op_notInN hr.units) (pv 4) (pv 1) (by with_unfolding_all rfl)) (pss_one (ps_asg (pe_op op_sub (pe_op op_shl pe_int (pv 2)) pe_int) (pg_sub (pv 3) (pv 4) (set_dictN hr.units)))) pss_nil)))
      (pss_one (ps_ret (C8.pe_c c_spread hr (by decide) (by rfl) (pa_cons (pv 2) (pa_cons (pe_pp p_labels hr (by decide) (pv 0)) (pa_cons (pe_lc rfl sc_greatest_bits.nd (pi_tup (pe_pp p_grants hr (by decide) (pv 0))) (blkOk_by (own := [("grant", 5)]) (by show blkC ["policy", "fixed", "owners", "begun", "role", "grant"] (defScope t_greatest_bits) _ _ = true; decide +kernel)) (fun _ _ _ _ _ => (pg_name (i := 5) sc_greatest_bits.nd rfl (by first | exact Or.inl rfl | exact Or.inr rfl))) (fun _ _ _ _ _ => (pts_one (pt_cmpR (op_inK (K := K) rfl hr.units) (pe_ix (ix_tupK (K := K) rfl) (pv 5) pe_int (fun _ _ => rfl)) (pv 1) (by with_unfolding_all rfl)))) (fun _ _ _ _ _ => (pv 5))) (pa_cons (pv 3) pa_nil))))))))), ?_⟩
    refine ⟨_, rfl, rd_owners pol ⟨_, _, rfl, rfl, fun bd ob hb dm => ⟨_, _, rfl, ?_⟩⟩⟩
    have e1 : ((S.n : Nat) : Int) + 1 = ((S.n + 1 : Nat) : Int) := by omega
    dsimp only
    rw [e1]
    have s0 : L2.Same H (upd H bd ob) := same_upd hb
    refine ⟨_, rfl, _, rfl, rd_labels (pol.same s0) ⟨S.n + 1, S.l, rfl, by omega, by omega, fun H1 t tw s1 et dt => ⟨t, rfl, ⟨_, .of et⟩, for_tup (xs := tw) (fun i σ H' => ∃ x, σ = [some (.ref p), some (.ref f), some (.int ((S.n + 1 : Nat) : Int)), some (.ref bd), x, none] ∧ L2.Same H H' ∧ Tk H1 H' ∧ DMap P w H' bd (begun S ((allR (S.n + 1) S.l).take i))) ⟨_, rfl, s0.trans s1, Tk.refl _, dm.same s1⟩ (fun i σ H' _ ⟨_, _, _, t', _⟩ => .of (t' _ _ et)) ?_ ?_⟩⟩⟩
    · rintro i x σ H2 hx ⟨_, rfl, s2, t2, dm2⟩
      obtain ⟨r, hr, dr⟩ := dvsR dt hx
      have dr2 : DV H2 (eR r) x := dr.mono t2
      refine ⟨_, rfl, _, rfl, eR r, S.fx.map eR, f, fs, dr2, rfl, .inr (.of (s2 _ _ ef)), df.mono (.of_same s2), dep_eR r, _, rfl, ?_⟩
      rw [show (if true = true then !decide (eR r ∈ S.fx.map eR) else decide (eR r ∈ S.fx.map eR)) = !decide (r ∈ S.fx) from congrArg not (decide_eq_decide.mpr memR)]
      refine ite2 (fun hf => ?_) (fun hf => ?_)
      · refine ⟨_, rfl, _, _, rfl, rfl, ⟨Int.natCast_nonneg _, by omega, by decide⟩, _, _, rfl, rfl, ?_⟩
        have ev : (1 : Int) * 2 ^ ((S.n + 1 : Nat) : Int).toNat - 1 = ((2 ^ (S.n + 1) - 1 : Nat) : Int) := by
          have p1 : 1 ≤ 2 ^ (S.n + 1) := Nat.pow_pos (by decide)
          rw [Int.one_mul, Int.toNat_natCast, Int.ofNat_sub p1]
          push_cast
          rfl
        dsimp only
        rw [ev]
        refine ⟨_, rfl, _, rfl, bd, _, _, rfl, dm2, dr2, dep_eR r, ?_, fun o dm3 tk => ⟨_, rfl, sUp s2 hb, t2.trans tk, ?_⟩⟩
        · unfold begun
          rw [List.length_map]
          have z := List.length_filter_le (fun r => !decide (r ∈ S.fx)) ((allR (S.n + 1) S.l).take i)
          rw [List.length_take] at z
          omega
        · have nb : r ∉ ((allR (S.n + 1) S.l).take i).filter fun r => !decide (r ∈ S.fx) := fun z => not_before rnd hr (List.mem_filter.mp z).1
          have e := put_new (v := fun _ => V.int ((2 ^ (S.n + 1) - 1 : Nat) : Int)) (x := V.int ((2 ^ (S.n + 1) - 1 : Nat) : Int)) nb
          unfold begun at dm3 ⊢
          rw [e] at dm3
          rw [take_snoc hr, List.filter_append, List.filter_cons_of_pos (by exact hf), List.filter_nil, List.map_append]
          exact dm3
      · refine ⟨_, rfl, s2, t2, ?_⟩
        unfold begun at dm2 ⊢
        rw [take_snoc hr, List.filter_append, List.filter_cons_of_neg (by exact hf), List.filter_nil, List.append_nil]
        exact dm2
    · rintro σ H2 ⟨_, rfl, s2, t2, dm2⟩
      have ltw : tw.length = (allR (S.n + 1) S.l).length := by rw [← dt.len, List.length_map]
      rw [ltw, List.take_length] at dm2
      refine ⟨_, rfl, _, rfl, rd_labels (pol.same s2) ⟨_, rfl, rd_grants (pol.same s2) fun g gws eg dg => ⟨_, rfl, ⟨_, .of eg⟩, fun D hD => lc_tup (xs := gws) (fun k H' => FilG H2 D (fun g => decide (g.1 ∈ S.fx)) S.gs k H') (FilG.nil hD) (fun i H' _ t' => .of (t'.1 _ _ eg)) ?_ ?_⟩⟩⟩
      · rintro k x H3 hx t'
        obtain ⟨gr, hg, dgr⟩ := dvsG dg hx
        have dgr3 := dgr.mono (.of_same t'.1)
        obtain ⟨b, y, z, rfl, eb, dy, dz⟩ := dG dgr3
        have s3 := s2.trans t'.1
        refine ⟨rfl, _, rfl, _, _, _, _, rfl, rfl, .of eb, rfl, _, rfl, eR gr.1, S.fx.map eR, f, fs, dy, rfl, .inr (.of (s3 _ _ ef)), df.mono (.of_same s3), dep_eR _, _, rfl, ?_⟩
        rw [show (if false = true then !decide (eR gr.1 ∈ S.fx.map eR) else decide (eR gr.1 ∈ S.fx.map eR)) = decide (gr.1 ∈ S.fx) from decide_eq_decide.mpr memR]
        refine ite2 (fun hf => ?_) (fun hf => ?_)
        · exact ⟨_, rfl, t'.keep hg hf (by omega) dgr3⟩
        · exact t'.skip hg (by simpa using hf)
      · rintro H3 ⟨s3, hD0, us, eD, dD⟩
        have lg : gws.length = S.gs.length := by rw [← dg.len, List.length_map]
        rw [lg, List.take_length] at dD
        refine ⟨_, rfl, S, D, us, bd, rfl, ok, eD, dD, dm2.same s3, fun H4 d k s4 kd fine rest => q H4 d k ((s2.trans s3).trans s4) kd fine.lt fun r hr o ho => fine_rest ok.gs.1 fine rest hr ho⟩
end
end G53


/-! The walk: is_so, is_barred, holds. -/
namespace G53
open PySem PySem.Spec PyProof.Rows L2

/-- what the law asks of the settings -/
inductive Wish where
  | emp (r : Role)
  | apt (r s : Role)
def WishD (H : Hp) (x : Addr) : Wish → Prop
  | .emp r => ∃ v, H x = some (.tup [.str "empty", v]) ∧ DV H (eR r) v
  | .apt r s => ∃ v u, H x = some (.tup [.str "apart", v, u]) ∧ DV H (eR r) v ∧ DV H (eR s) u
theorem WishD.same {H H' : Hp} {x : Addr} (s : L2.Same H H') : ∀ {W : Wish}, WishD H x W → WishD H' x W
  | .emp r, ⟨v, e, d⟩ => ⟨v, s _ _ e, d.mono (.of_same s)⟩
  | .apt r t, ⟨v, u, e, d, d2⟩ => ⟨v, u, s _ _ e, d.mono (.of_same s), d2.mono (.of_same s)⟩
def WishR (n l : Nat) : Wish → Prop
  | .emp r => OkR n l r
  | .apt r s => OkR n l r ∧ OkR n l s
def WishK (k : Bits) : Wish → Prop
  | .emp r => k r = 0
  | .apt r s => k r &&& k s = 0
def WishT (S : Stg) : Wish → Prop
  | .emp r => ∀ o, o ≤ S.n → ¬ Gr S o r
  | .apt r s => ∀ o, o ≤ S.n → ¬ (Gr S o r ∧ Gr S o s)
theorem zero_iff {x m : Nat} (h : x < 2 ^ m) : x = 0 ↔ ∀ o, o < m → x.testBit o = false := by
  constructor
  · rintro rfl o _
    exact Nat.zero_testBit o
  · intro q
    refine Nat.eq_of_testBit_eq fun o => ?_
    rw [Nat.zero_testBit]
    rcases Nat.lt_or_ge o m with z | z
    · exact q o z
    · exact Nat.testBit_lt_two_pow (Nat.lt_of_lt_of_le h (Nat.pow_le_pow_right (by decide) z))
theorem wish_iff {S : Stg} {k : Bits} (lt : ∀ r, k r < 2 ^ (S.n + 1)) (gr : ∀ r, OkR (S.n + 1) S.l r → ∀ o, o ≤ S.n → ((k r).testBit o = true ↔ Gr S o r)) : ∀ {W : Wish}, WishR S.n S.l W → (WishK k W ↔ WishT S W)
  | .emp r, ok => by
    have okr : OkR (S.n + 1) S.l r := OkR.mono (Nat.le_succ _) ok
    show k r = 0 ↔ ∀ o, o ≤ S.n → ¬ Gr S o r
    rw [zero_iff (lt r)]
    constructor
    · intro h o ho g
      have z := h o (by omega)
      rw [(gr r okr o ho).mpr g] at z
      cases z
    · intro h o ho
      cases hb : (k r).testBit o with
      | false => rfl
      | true => exact absurd ((gr r okr o (by omega)).mp hb) (h o (by omega))
  | .apt r s, ok => by
    have okr : OkR (S.n + 1) S.l r := OkR.mono (Nat.le_succ _) ok.1
    have oks : OkR (S.n + 1) S.l s := OkR.mono (Nat.le_succ _) ok.2
    show k r &&& k s = 0 ↔ ∀ o, o ≤ S.n → ¬ (Gr S o r ∧ Gr S o s)
    rw [zero_iff (Nat.lt_of_le_of_lt Nat.and_le_left (lt r))]
    constructor
    · intro h o ho g
      have z := h o (by omega)
      rw [Nat.testBit_and, (gr r okr o ho).mpr g.1, (gr s oks o ho).mpr g.2] at z
      cases z
    · intro h o ho
      cases hb : (k r &&& k s).testBit o with
      | false => rfl
      | true =>
        rw [Nat.testBit_and, Bool.and_eq_true] at hb
        exact absurd ⟨(gr r okr o (by omega)).mp hb.1, (gr s oks o (by omega)).mp hb.2⟩ (h o (by omega))
theorem dvs_ints {H : Hp} : ∀ ns : List Int, DVs H (ns.map .num) (ns.map V.int)
  | [] => .nil
  | n :: ns => .cons (.num n) (dvs_ints ns)
theorem dep_nums : ∀ ns : List Int, NestedKey.depthAll (ns.map .num) ≤ 1
  | [] => by simp [NestedKey.depthAll]
  | n :: ns => by
    have h := dep_nums ns
    rw [List.map_cons, NestedKey.depthAll]
    have e : (NestedKey.num n).depth = 0 := by simp [NestedKey.depth]
    omega
def sp_is_so (P : Program) (w : World) : Sp := fun vs H Q _ => ∃ (W : Wish) (x d : Addr) (n l : Nat) (k : Bits), vs = [.ref x, .ref d] ∧ WishD H x W ∧ KD P w H d n l k ∧ WishR n l W ∧ (∀ r, k r < 2 ^ 60) ∧ ∀ (H' : Hp) (b : Bool), L2.Same H H' → (b = true ↔ WishK k W) → Q (.bl b) H'
def sp_is_barred (CP : Addr) : Sp := fun vs H Q _ => ∃ (S : Stg) (p f : Addr) (fs : List V) (W : Wish) (x : Addr), vs = [.ref p, .ref f, .ref x] ∧ OkS S ∧ PolD CP H p S.n S.l S.gs ∧ H f = some (.tup fs) ∧ DVs H (S.fx.map eR) fs ∧ WishD H x W ∧ WishR S.n S.l W ∧
  ∀ (H' : Hp) (b : Bool), L2.Same H H' → (b = true ↔ WishT S W) → Q (.bl b) H'
def sp_holds (CP CS : Addr) : Sp := fun vs H Q _ => ∃ (S : Stg) (a : Addr) (W : Wish) (x : Addr), vs = [.ref a, .ref x] ∧ OkS S ∧ StgD CP CS H a S ∧ WishD H x W ∧ WishR S.n S.l W ∧ ∀ (H' : Hp) (b : Bool), L2.Same H H' → (b = true ↔ WishT S W) → Q (.bl b) H'
section
variable {P : Program} {w : World} {K : PySem.W.Frag} {mg : Str → Option Value} {base : Heap} {CP CS : Addr}
theorem sc_is_so : FnScope ["wish", "known", "word", "some", "owner"] ["wish", "known"] (defScope t_is_so) := ⟨rfl, rfl, rfl, by decide +kernel, rfl, by decide +kernel, by decide +kernel⟩
theorem ok_is_so (T : Txt K mg CP CS) : C8.Cal P w K mg base 2 "is_so" (sp_is_so P w) [] := by
  have c_members := ok_members (P := P) (w := w) (base := base) T
  refine cal_of T.d_is_so sc_is_so (fun _ _ _ _ _ _ us hl => match us, hl with | [_, _], _ => rfl) (fun vs H Q E h => ?_) (fun f cdv A outer s H vs Q E hr h => ?_)
  · obtain ⟨W, x, d, n, l, k, rfl, _⟩ := h
    rfl
  · obtain ⟨W, x, d, n, l, k, rfl, wd, kd, wr, lt, q⟩ := h
    refine ⟨_, (pss_cons (ps_asg (pe_tup (pa_cons (pe_ix ix_tup (pv 0) pe_int (fun _ _ => rfl)) (pa_cons (C8.pe_c c_members hr (by decide) (by rfl) (pa_cons (pe_ix (ix_dictN hr.units) (pv 1) (pe_ix ix_tup (pv 0) pe_int (fun _ _ => rfl)) (fun _ _ => rfl)) pa_nil)) pa_nil))) (pg_two (K := K) (i := 2) (j := 3) rfl rfl sc_is_so.nd rfl rfl (by first | exact Or.inl rfl | exact Or.inr rfl) (by first | exact Or.inl rfl | exact Or.inr rfl) (by first | exact Or.inl rfl | exact Or.inr rfl) (by first | exact Or.inl rfl | exact Or.inr rfl)))
      (pss_cons (ps_if (pt_cmpR op_eq (pv 2) pe_str (nomark _)) (pss_one (ps_ret (pe_cmpR op_ne (pv 3) (pe_tup pa_nil) (nomark _)))) pss_nil)
      (pss_cons (ps_if (pt_cmpR op_eq (pv 2) pe_str (nomark _)) (pss_one (ps_ret (pe_cmpR (op_eqN hr.units) (pv 3) (pe_tup pa_nil) (nomark _)))) pss_nil)
      (pss_cons (ps_if (pt_cmpR op_eq (pv 2) pe_str (nomark _)) (pss_one (ps_ret (pe_cmpR op_eq (pe_op op_and (pe_ix (ix_dictN hr.units) (pv 1) (pe_ix ix_tup (pv 0) pe_int (fun _ _ => rfl)) (fun _ _ => rfl)) (pe_ix (ix_dictN hr.units) (pv 1) (pe_ix ix_tup (pv 0) pe_int (fun _ _ => rfl)) (fun _ _ => rfl))) pe_int (nomark _)))) pss_nil)
      pss_never)))), ?_⟩
    cases W with
    | emp r =>
      obtain ⟨v, e, dv⟩ := wd
      refine ⟨_, rfl, _, _, _, _, rfl, rfl, .of e, rfl, _, rfl, _, rfl, _, _, _, _, rfl, rfl, .of e, rfl, d, _, _, _, rfl, kd, dv, dep_eR r, kd_val (mem_allR.mpr wr), k r, rfl, lt r, fun H1 t ns s1 et iff => ⟨(by show 2 ≤ sizeLine; decide), fun z hz => ⟨z, _, rfl, .of upd_same, rfl, _, _, rfl, _, _, rfl, rfl, ?_⟩⟩⟩
      have s2 := sNew (o := .tup [.str "empty", .ref t]) s1 hz
      have et2 : upd H1 z (.tup [.str "empty", .ref t]) t = some (.tup (ns.map V.int)) := by
        rw [upd_ne (ne_of_none et hz)]
        exact et
      refine ⟨_, rfl, rfl, _, rfl, ifF (by decide +kernel) ?_⟩
      refine ⟨_, rfl, rfl, _, rfl, ifT (by decide +kernel) ⟨_, rfl, by decide, fun y hy => ?_⟩⟩
      have s3 := sNew (o := .tup []) s2 hy
      have et3 : upd (upd H1 z (.tup [.str "empty", .ref t])) y (.tup []) t = some (.tup (ns.map V.int)) := by
        rw [upd_ne (ne_of_none et2 hy)]
        exact et2
      refine ⟨ns.map .num, [], .tup et3 (dvs_ints ns), .tup upd_same .nil, by have := dep_nums ns; rw [NestedKey.depth]; omega, q _ _ s3 ?_⟩
      rw [decide_eq_true_eq, List.map_eq_nil_iff]
      exact iff
    | apt r s' =>
      obtain ⟨v, u, e, dv, du⟩ := wd
      refine ⟨_, rfl, _, _, _, _, rfl, rfl, .of e, rfl, _, rfl, _, rfl, _, _, _, _, rfl, rfl, .of e, rfl, d, _, _, _, rfl, kd, dv, dep_eR r, kd_val (mem_allR.mpr wr.1), k r, rfl, lt r, fun H1 t ns s1 et iff => ⟨(by show 2 ≤ sizeLine; decide), fun z hz => ⟨z, _, rfl, .of upd_same, rfl, _, _, rfl, _, _, rfl, rfl, ?_⟩⟩⟩
      have s2 := sNew (o := .tup [.str "apart", .ref t]) s1 hz
      have e2 := s2 _ _ e
      have kd2 : KD P w _ d n l k := kd.same s2
      refine ⟨_, rfl, rfl, _, rfl, ifF (by decide +kernel) ?_⟩
      refine ⟨_, rfl, rfl, _, rfl, ifF (by decide +kernel) ?_⟩
      refine ⟨_, rfl, rfl, _, rfl, ifT (by decide +kernel) ?_⟩
      refine ⟨_, rfl, _, rfl, _, _, _, _, rfl, rfl, .of e2, rfl, d, _, _, _, rfl, kd2, dv.mono (.of_same s2), dep_eR r, kd_val (mem_allR.mpr wr.1), _, rfl, _, rfl, _, _, _, _, rfl, rfl, .of e2, rfl, d, _, _, _, rfl, kd2, du.mono (.of_same s2), dep_eR s', kd_val (mem_allR.mpr wr.2), _, _, rfl, rfl, rfl, q _ _ s2 ?_⟩
      rw [decide_eq_true_eq]
      show V.int (Builtin.bitAnd ((k r : Nat) : Int) ((k s' : Nat) : Int)) = V.int 0 ↔ k r &&& k s' = 0
      rw [band]
      constructor
      · intro z
        injection z with z
        omega
      · intro z
        rw [z]
        rfl
theorem sc_is_barred : FnScope ["policy", "fixed", "wish"] ["policy", "fixed", "wish"] (defScope t_is_barred) := ⟨rfl, rfl, rfl, by decide +kernel, rfl, by decide +kernel, by decide +kernel⟩
theorem ok_is_barred (T : Txt K mg CP CS) : C8.Cal P w K mg base 5 "is_barred" (sp_is_barred CP) [] := by
  have c_is_so := ok_is_so (P := P) (w := w) (base := base) T
  have c_greatest_bits := ok_greatest_bits (P := P) (w := w) (base := base) T
  refine cal_of T.d_is_barred sc_is_barred (fun _ _ _ _ _ _ us hl => match us, hl with | [_, _, _], _ => rfl) (fun vs H Q E h => ?_) (fun f cdv A outer s H vs Q E hr h => ?_)
  · obtain ⟨S, p, f, fs, W, x, rfl, _⟩ := h
    rfl
  · obtain ⟨S, p, f, fs, W, x, rfl, ok, pol, ef, df, wd, wr, q⟩ := h
    have n3 := ok.n3
    refine ⟨_, (pss_one (ps_ret (C8.pe_c c_is_so hr (by decide) (by rfl) (pa_cons (pv 2) (pa_cons (C8.pe_c c_greatest_bits hr (by decide) (by rfl) (pa_cons (pv 0) (pa_cons (pv 1) pa_nil))) pa_nil))))), ?_⟩
    refine ⟨_, rfl, _, rfl, _, rfl, S, p, f, fs, rfl, ok, pol, ef, df, fun H1 d k s1 kd lt gr => ?_⟩
    have up : WishR (S.n + 1) S.l W := by
      cases W with
      | emp r => exact OkR.mono (Nat.le_succ _) wr
      | apt r s => exact ⟨OkR.mono (Nat.le_succ _) wr.1, OkR.mono (Nat.le_succ _) wr.2⟩
    refine ⟨W, x, d, S.n + 1, S.l, k, rfl, wd.same s1, kd, up, fun r => Nat.lt_of_lt_of_le (lt r) (Nat.pow_le_pow_right (by decide) (by omega)), fun H2 b s2 hb => q H2 b (s1.trans s2) ?_⟩
    rw [hb]
    exact wish_iff lt gr wr
theorem sc_holds : FnScope ["setting", "wish"] ["setting", "wish"] (defScope t_holds) := ⟨rfl, rfl, rfl, by decide +kernel, rfl, by decide +kernel, by decide +kernel⟩
theorem ok_holds (T : Txt K mg CP CS) : C8.Cal P w K mg base 6 "holds" (sp_holds CP CS) [] := by
  have c_is_barred := ok_is_barred (P := P) (w := w) (base := base) T
  have p_policy := ok_S_policy (P := P) (w := w) (base := base) T
  have p_fixed := ok_S_fixed (P := P) (w := w) (base := base) T
  obtain ⟨ak, mK, sK⟩ := T.k_KEEPING
  refine cal_of T.d_holds sc_holds (fun _ _ _ _ _ _ us hl => match us, hl with | [_, _], _ => rfl) (fun vs H Q E h => ?_) (fun f cdv A outer s H vs Q E hr h => ?_)
  · obtain ⟨S, a, W, x, rfl, _⟩ := h
    rfl
  · obtain ⟨S, a, W, x, rfl, ok, stg, wd, wr, q⟩ := h
    obtain ⟨wd0, rest, ex, nk⟩ : ∃ t rest, H x = some (.tup (.str t :: rest)) ∧ inV (.str t) [.str "all", .str "filled", .str "sure"] = false := by
      cases W with
      | emp r =>
        obtain ⟨v, e, _⟩ := wd
        exact ⟨_, _, e, by decide +kernel⟩
      | apt r s =>
        obtain ⟨v, u, e, _⟩ := wd
        exact ⟨_, _, e, by decide +kernel⟩
    refine ⟨_, (pss_cons (ps_if (pt_cmpR op_in_seq (pe_ix ix_tup (pv 1) pe_int (fun _ _ => rfl)) (pe_keep (by rfl) mK) (by with_unfolding_all rfl)) pss_never pss_nil)
      (pss_one (ps_ret (C8.pe_c c_is_barred hr (by decide) (by rfl) (pa_cons (pe_pp p_policy hr (by decide) (pv 0)) (pa_cons (pe_pp p_fixed hr (by decide) (pv 0)) (pa_cons (pv 1) pa_nil))))))), ?_⟩
    refine ⟨_, rfl, _, _, _, _, rfl, rfl, .of ex, atI_nat (j := 0) rfl, ak, _, rfl, .inr (sK H), rfl, by decide +kernel, _, rfl, ifF nk ?_⟩
    refine ⟨_, rfl, rd_policy stg fun p pol => ⟨_, rfl, rd_fixed stg fun f fs ef df => ⟨_, rfl, S, p, f, fs, W, x, rfl, ok, pol, ef, df, wd, wr, q⟩⟩⟩
end
end G53


/-! The walk: the law's deck. -/
namespace G53
open PySem PySem.Spec PyProof.Rows L2

/-- all but the deck is kept -/
def Fr (d : Addr) (H H' : Hp) : Prop := ∀ b o, H b = some o → b ≠ d → H' b = some o
theorem Fr.refl (d : Addr) (H : Hp) : Fr d H H := fun _ _ e _ => e
theorem Fr.trans {d : Addr} {H H1 H2 : Hp} (a : Fr d H H1) (b : Fr d H1 H2) : Fr d H H2 := fun c o e n => b c o (a c o e n) n
theorem Fr.of {d : Addr} {H H' : Hp} (s : L2.Same H H') : Fr d H H' := fun c o e _ => s c o e
theorem Fr.new {d p : Addr} {H H' : Hp} {o : HO} (s : Fr d H H') (h : H' p = none) : Fr d H (upd H' p o) := s.trans (.of (same_upd h))
theorem Fr.up {d p : Addr} {H H' : Hp} {o : HO} (s : Fr d H H') (h : H p = none) : Fr d H (upd H' p o) := fun c u e n => by
  rw [upd_ne (ne_of_none e h)]
  exact s c u e n
abbrev deckK (c : Addr) (t g : Int) : List (Key × V) := [(.inr "cells", .ref c), (.inr "turn", .int t), (.inr "great", .int g)]
/-- the deck stands at d, its cells at c; at most n draws were made -/
def Deck (H : Hp) (d c : Addr) (n : Nat) : Prop := ∃ (ns : List Int) (t g : Int), H d = some (.dK (deckK c t g)) ∧ H c = some (.lst (ns.map V.int)) ∧ 1 ≤ ns.length ∧ ns.length ≤ 64 ∧ 0 ≤ t ∧ t ≤ (n : Nat) ∧ 0 ≤ g
theorem Deck.at_ {H : Hp} {d c : Addr} {n : Nat} (h : Deck H d c n) : ∃ kvs, H d = some (.dK kvs) :=
  let ⟨_, _, _, e, _⟩ := h
  ⟨_, e⟩
theorem Deck.same {H H' : Hp} {d c : Addr} {n : Nat} (h : Deck H d c n) (s : L2.Same H H') : Deck H' d c n :=
  let ⟨ns, t, g, e1, e2, r⟩ := h
  ⟨ns, t, g, s _ _ e1, s _ _ e2, r⟩
theorem Deck.mono {H : Hp} {d c : Addr} {n m : Nat} (h : Deck H d c n) (le : n ≤ m) : Deck H d c m :=
  let ⟨ns, t, g, e1, e2, h1, h2, h3, h4, h5⟩ := h
  ⟨ns, t, g, e1, e2, h1, h2, h3, by omega, h5⟩
/-- a store into what is new -/
theorem Deck.up {H H' : Hp} {d c p : Addr} {n m : Nat} {o : HO} (h0 : Deck H d c m) (h : Deck H' d c n) (hp : H p = none) : Deck (upd H' p o) d c n :=
  let ⟨_, _, _, q1, q2, _⟩ := h0
  let ⟨ns, t, g, e1, e2, r⟩ := h
  ⟨ns, t, g, by rw [upd_ne (ne_of_none q1 hp)]; exact e1, by rw [upd_ne (ne_of_none q2 hp)]; exact e2, r⟩
theorem Fr.tk {d c : Addr} {H H' : Hp} {n : Nat} (s : Fr d H H') (h : Deck H d c n) : Tk H H' := fun b xs e => by
  obtain ⟨kvs, q⟩ := h.at_
  exact s b _ e fun z => by
    rw [z, q] at e
    cases e
theorem k_ct : ¬ (Sum.inr ("cells" : Str) : Key) = Sum.inr ("turn" : Str) := by decide +kernel
theorem k_cg : ¬ (Sum.inr ("cells" : Str) : Key) = Sum.inr ("great" : Str) := by decide +kernel
theorem k_tg : ¬ (Sum.inr ("turn" : Str) : Key) = Sum.inr ("great" : Str) := by decide +kernel
theorem deck_cells (c : Addr) (t g : Int) : valV (deckK c t g) (.inr "cells") = some (.ref c) := valV_pos (p := ((Sum.inr "cells" : Key), V.ref c)) rfl
theorem deck_turn (c : Addr) (t g : Int) : valV (deckK c t g) (.inr "turn") = some (.int t) := (valV_neg (p := ((Sum.inr "cells" : Key), V.ref c)) k_ct).trans (valV_pos (p := ((Sum.inr "turn" : Key), V.int t)) rfl)
theorem deck_great (c : Addr) (t g : Int) : valV (deckK c t g) (.inr "great") = some (.int g) := (valV_neg (p := ((Sum.inr "cells" : Key), V.ref c)) k_cg).trans ((valV_neg (p := ((Sum.inr "turn" : Key), V.int t)) k_tg).trans (valV_pos (p := ((Sum.inr "great" : Key), V.int g)) rfl))
theorem put_turn (c : Addr) (t g x : Int) : putK (deckK c t g) (.inr "turn") (.int x) = deckK c x g := by
  have e1 : ¬ (Sum.inr ("great" : Str) : Key) = Sum.inr ("turn" : Str) := fun e => k_tg e.symm
  unfold putK
  rw [if_pos (by simp [deckK])]
  simp only [deckK, List.map_cons, List.map_nil, if_neg k_ct, if_neg e1, if_pos]
theorem put_great (c : Addr) (t g x : Int) : putK (deckK c t g) (.inr "great") (.int x) = deckK c t x := by
  unfold putK
  rw [if_pos (by simp [deckK])]
  simp only [deckK, List.map_cons, List.map_nil, if_neg k_cg, if_neg k_tg, if_pos]
section
variable {H : Hp} {d c : Addr} {t g : Int}
theorem get_turn (e : H d = some (.dK (deckK c t g))) : DGet H d (.str "turn") (some (.int t)) := .inl ⟨_, .inr "turn", .inl e, rfl, (deck_turn c t g).symm⟩
theorem get_great (e : H d = some (.dK (deckK c t g))) : DGet H d (.str "great") (some (.int g)) := .inl ⟨_, .inr "great", .inl e, rfl, (deck_great c t g).symm⟩
theorem get_cells (e : H d = some (.dK (deckK c t g))) : DGet H d (.str "cells") (some (.ref c)) := .inl ⟨_, .inr "cells", .inl e, rfl, (deck_cells c t g).symm⟩
theorem set_turn {x : Int} (e : H d = some (.dK (deckK c t g))) : DPut H d (.str "turn") (.int x) (upd H d (.dK (deckK c x g))) := .inl ⟨_, .inr "turn", e, rfl, by show 3 < sizeLine; decide, by rw [put_turn]⟩
theorem set_great {x : Int} (e : H d = some (.dK (deckK c t g))) : DPut H d (.str "great") (.int x) (upd H d (.dK (deckK c t x))) := .inl ⟨_, .inr "great", e, rfl, by show 3 < sizeLine; decide, by rw [put_great]⟩
theorem fr_put {o : HO} : Fr d H (upd H d o) := fun b u e n => by
  rw [upd_ne n]
  exact e
end
theorem pow3 {x : Int} (h : x.natAbs < 2 ^ 64) : CPow x 3 := ⟨by decide, by decide, h⟩
def sp_law_take : Sp := fun vs H Q _ => ∃ (d c : Addr) (n m : Nat), vs = [.ref d, .int (m : Nat)] ∧ Deck H d c n ∧ n ≤ 100000 ∧ 1 ≤ m ∧ m ≤ 1000 ∧ ∀ (H' : Hp) (r : Nat), Fr d H H' → Deck H' d c (n + 1) → r < m → Q (.int (r : Nat)) H'
section
variable {P : Program} {w : World} {K : PySem.W.Frag} {mg : Str → Option Value} {base : Heap} {CP CS : Addr}
theorem sc_law_take : FnScope ["_law_deck_here", "_law_many", "_law_digit", "_law_turn", "_law_cells", "_law_mixed"] ["_law_deck_here", "_law_many"] (defScope t_law_take) := ⟨rfl, rfl, rfl, by decide +kernel, rfl, by decide +kernel, by decide +kernel⟩
theorem ok_law_take (T : Txt K mg CP CS) : C8.Cal P w K mg base 1 "_law_take" sp_law_take [] := by
  refine cal_of T.d_law_take sc_law_take (fun _ _ _ _ _ _ us hl => match us, hl with | [_, _], _ => rfl) (fun vs H Q E h => ?_) (fun f cdv A outer s H vs Q E hr h => ?_)
  · obtain ⟨d, c, n, m, rfl, _⟩ := h
    rfl
  · obtain ⟨d, c, n, m, rfl, dk, n5, m1, m3, q⟩ := h
    refine ⟨_, (pss_cons (ps_dput (hu_of hr) (pv 0) pe_str (pe_op op_add (pe_dget (hu_of hr) (pv 0) pe_str (fun _ _ => rfl)) pe_int) rfl)
      (pss_cons (ps_if (pt_cmpR op_gt (pe_dget (hu_of hr) (pv 0) pe_str (fun _ _ => rfl)) pe_int (nomark _)) (pss_cons (ps_set (i := 2) sc_law_take.nd rfl (Or.inl rfl) (pe_op op_mod (pe_dget (hu_of hr) (pv 0) pe_str (fun _ _ => rfl)) (pv 1)))
      (pss_cons (ps_dput (hu_of hr) (pv 0) pe_str (pe_op op_fdiv (pe_dget (hu_of hr) (pv 0) pe_str (fun _ _ => rfl)) (pv 1)) rfl)
      (pss_one (ps_ret (pv 2))))) pss_nil)
      (pss_cons (ps_par (i := 3) (j := 4) rfl sc_law_take.nd rfl rfl (by decide) rfl rfl (pa_cons (pe_dget (hu_of hr) (pv 0) pe_str (fun _ _ => rfl)) (pa_cons (pe_dget (hu_of hr) (pv 0) pe_str (fun _ _ => rfl)) pa_nil)) rfl)
      (pss_cons (ps_set (i := 5) sc_law_take.nd rfl (Or.inl rfl) (pe_op op_mod (pe_op op_pow (pe_op op_add (pe_op op_add (pe_op op_mod (pe_ix ix_list (pv 4) (pe_op op_mod (pv 3) (pe_callB call_len_seq (by rfl) T.b_len bo_len (pa_cons (pv 4) pa_nil))) (fun _ _ => rfl)) pe_int) (pe_op op_mul pe_int (pv 3))) pe_int) pe_int) pe_int))
      (pss_one (ps_ret (pe_op op_mod (pe_op op_fdiv (pe_op op_mod (pe_op op_add (pe_op op_mul (pv 5) pe_int) (pe_op op_mul (pe_op op_mul pe_int (pv 3)) (pv 3))) pe_int) pe_int) (pv 1)))))))), ?_⟩
    obtain ⟨ns, t, g, e, ec, n1, n64, t0, tn, g0⟩ := dk
    have cd : c ≠ d := ne_of ec e (fun z => by cases z)
    have mp : (0 : Int) < (m : Nat) := by omega
    refine ⟨_, rfl, d, _, rfl, get_turn e, _, _, rfl, rfl, _, rfl, d, _, rfl, set_turn e, ?_⟩
    have e1 : upd H d (.dK (deckK c (t + 1) g)) d = some (.dK (deckK c (t + 1) g)) := upd_same
    have ec1 : upd H d (.dK (deckK c (t + 1) g)) c = some (.lst (ns.map V.int)) := by
      rw [upd_ne cd]
      exact ec
    have f1 : Fr d H (upd H d (.dK (deckK c (t + 1) g))) := fr_put
    dsimp only
    generalize upd H d (.dK (deckK c (t + 1) g)) = H1 at e1 ec1 f1 ⊢
    refine ⟨_, rfl, d, _, rfl, get_great e1, _, _, rfl, rfl, _, rfl, ?_⟩
    refine ite2 (fun hg => ?_) (fun hg => ?_)
    · refine ⟨_, rfl, d, _, rfl, get_great e1, _, rfl, _, _, rfl, rfl, mp, ?_⟩
      refine ⟨_, rfl, d, _, rfl, get_great e1, _, rfl, _, _, rfl, rfl, ⟨mp, by omega⟩, _, rfl, d, _, rfl, set_great e1, ?_⟩
      refine ⟨_, rfl, ?_⟩
      have r0 := Int.emod_nonneg g (show ((m : Nat) : Int) ≠ 0 by omega)
      have r1 := Int.emod_lt_of_pos g mp
      have er : g % ((m : Nat) : Int) = (((g % ((m : Nat) : Int)).toNat : Nat) : Int) := by omega
      have q0 : 0 ≤ g / ((m : Nat) : Int) := Int.ediv_nonneg g0 (by omega)
      dsimp only
      rw [er]
      refine q _ _ (f1.trans fr_put) ⟨ns, t + 1, g / ((m : Nat) : Int), upd_same, ?_, n1, n64, by omega, by omega, q0⟩ (by omega)
      rw [upd_ne cd]
      exact ec1
    · refine ⟨_, rfl, d, _, rfl, get_turn e1, _, rfl, d, _, rfl, get_cells e1, _, _, rfl, ?_⟩
      have lp : (0 : Int) < ((ns.map V.int).length : Nat) := by
        rw [List.length_map]
        omega
      have i0 := Int.emod_nonneg (t + 1) (show (((ns.map V.int).length : Nat) : Int) ≠ 0 by omega)
      have i1 := Int.emod_lt_of_pos (t + 1) lp
      obtain ⟨j, hj⟩ : ∃ j : Nat, (t + 1) % (((ns.map V.int).length : Nat) : Int) = (j : Nat) := ⟨_, (Int.toNat_of_nonneg i0).symm⟩
      rw [List.length_map] at i1
      have jl : j < ns.length := by
        rw [List.length_map] at hj
        omega
      have hat : atI (ns.map V.int) ((t + 1) % (((ns.map V.int).length : Nat) : Int)) = some (V.int ns[j]) := by
        rw [hj]
        refine atI_nat ?_
        rw [List.getElem?_map, List.getElem?_eq_getElem jl]
        rfl
      refine ⟨_, rfl, _, rfl, _, rfl, c, _, rfl, .inl (.of ec1), _, _, rfl, rfl, lp, c, _, _, _, rfl, rfl, .of ec1, hat, _, _, rfl, rfl, (by decide : (0 : Int) < 2147483399), _, rfl, _, _, rfl, rfl, .inl ⟨by decide, by decide⟩, _, _, rfl, rfl, _, _, rfl, rfl, _, _, rfl, rfl, ?_, _, _, rfl, rfl, (by decide : (0 : Int) < 2147483489), ?_⟩
      · refine pow3 ?_
        have b0 := Int.emod_nonneg ns[j] (show (2147483399 : Int) ≠ 0 by decide)
        have b1 := Int.emod_lt_of_pos ns[j] (show (0 : Int) < 2147483399 by decide)
        omega
      · refine ⟨_, rfl, _, _, rfl, rfl, .inr ⟨by decide, by decide⟩, _, rfl, _, _, rfl, rfl, .inl ⟨by decide, by decide⟩, _, rfl, _, _, rfl, rfl, .inr ⟨?_, ?_⟩, _, _, rfl, rfl, _, _, rfl, rfl, (by decide : (0 : Int) < 2147483423), _, _, rfl, rfl, ⟨by decide, by decide⟩, _, rfl, _, _, rfl, rfl, mp, ?_⟩
        · show -(2 ^ 64) < t + 1
          omega
        · show t + 1 < 2 ^ 64
          omega
        · dsimp only
          generalize ((ns[j] % 2147483399 + 70001 * (t + 1) + 41) ^ (3 : Int).toNat % 2147483489 * 53101 + 6397 * (t + 1) * (t + 1)) % 2147483423 / 13 = z
          have r0 := Int.emod_nonneg z (show ((m : Nat) : Int) ≠ 0 by omega)
          have r1 := Int.emod_lt_of_pos z mp
          have er : z % ((m : Nat) : Int) = (((z % ((m : Nat) : Int)).toNat : Nat) : Int) := by omega
          rw [er]
          exact q _ _ f1 ⟨ns, t + 1, g, e1, ec1, n1, n64, by omega, by omega, g0⟩ (by omega)
end
end G53


/-! The walk: the law's own defs. -/
namespace G53
open PySem PySem.Spec PyProof.Rows L2

theorem take_min {α : Type} (xs : List α) (k : Nat) : xs.take (min k xs.length) = xs.take k := by
  rcases Nat.le_total k xs.length with h | h
  · rw [Nat.min_eq_left h]
  · rw [Nat.min_eq_right h, List.take_length, List.take_of_length_le h]
theorem cut_to (ns : List Int) (k : Nat) : cutV (ns.map V.int) none (some (k : Int)) = (ns.take k).map V.int := by
  unfold cutV
  rw [HT.sIx_none, HT.sIx_nat, List.drop_zero, Nat.sub_zero, take_min, List.map_take]
theorem s_ct : ¬ ("cells" : Str) = "turn" := by decide +kernel
theorem s_cg : ¬ ("cells" : Str) = "great" := by decide +kernel
theorem s_tg : ¬ ("turn" : Str) = "great" := by decide +kernel
theorem merge_deck (c : Addr) (t g : Int) : mergeK [] (deckK c t g) = deckK c t g := by
  have e1 : putK ([] : List (Key × V)) (.inr "cells") (.ref c) = [(.inr "cells", .ref c)] := rfl
  have e2 : putK [((Sum.inr "cells" : Key), V.ref c)] (.inr "turn") (.int t) = [(.inr "cells", .ref c), (.inr "turn", .int t)] := by
    unfold putK
    rw [if_neg (by simp [s_ct])]
    rfl
  have e3 : putK [((Sum.inr "cells" : Key), V.ref c), (.inr "turn", .int t)] (.inr "great") (.int g) = deckK c t g := by
    unfold putK
    rw [if_neg (by simp [s_cg, s_tg])]
    rfl
  show putK (putK (putK [] (.inr "cells") (.ref c)) (.inr "turn") (.int t)) (.inr "great") (.int g) = deckK c t g
  rw [e1, e2, e3]
def sp_law_deck (K : PySem.W.Frag) : Sp := fun vs H Q _ => ∃ (a : Addr) (ns : List Int), vs = [.ref a] ∧ SqL K H a (ns.map V.int) ∧ ns.length ≤ 63 ∧ ∀ (H' : Hp) (d c : Addr), L2.Same H H' → Deck H' d c 0 → Q (.ref d) H'
def sp_law_one : Sp := fun vs H Q _ => ∃ (d c : Addr) (n : Nat) (p : Addr) (xs : List V), vs = [.ref d, .ref p] ∧ Deck H d c n ∧ n ≤ 90000 ∧ H p = some (.lst xs) ∧ 1 ≤ xs.length ∧ xs.length ≤ 1000 ∧ ∀ (H' : Hp) (v : V), Fr d H H' → Deck H' d c (n + 1) → v ∈ xs → Q v H'
def sp_law_role : Sp := fun vs H Q _ => ∃ (d c : Addr) (n o l : Nat), vs = [.ref d, .int (o : Nat), .int (l : Nat)] ∧ Deck H d c n ∧ n ≤ 80000 ∧ 1 ≤ o ∧ o ≤ 8 ∧ 1 ≤ l ∧ l ≤ 8 ∧ ∀ (H' : Hp) (r : Role) (v : V), Fr d H H' → Deck H' d c (n + 2) → OkR o l r → DV H' (eR r) v → Q v H'
def sp_law_body : Sp := fun vs H Q _ => ∃ (d c : Addr) (n o l : Nat), vs = [.ref d, .int (o : Nat), .int (l : Nat), .bl true] ∧ Deck H d c n ∧ n ≤ 70000 ∧ 1 ≤ o ∧ o ≤ 8 ∧ 1 ≤ l ∧ l ≤ 8 ∧ ∀ (H' : Hp) (b : Body) (v : V), Fr d H H' → Deck H' d c (n + 6) → OkB o l b → DV H' (eB b) v → Q v H'
section
variable {P : Program} {w : World} {K : PySem.W.Frag} {mg : Str → Option Value} {base : Heap} {CP CS : Addr}
theorem sc_law_deck : FnScope ["_law_script", "_law_great", "_law_cell"] ["_law_script"] (defScope t_law_deck) := ⟨rfl, rfl, rfl, by decide +kernel, rfl, by decide +kernel, by decide +kernel⟩
theorem ok_law_deck (T : Txt K mg CP CS) : C8.Cal P w K mg base 1 "_law_deck" (sp_law_deck K) [] := by
  refine cal_of T.d_law_deck sc_law_deck (fun _ _ _ _ _ _ us hl => match us, hl with | [_], _ => rfl) (fun vs H Q E h => ?_) (fun f cdv A outer s H vs Q E hr h => ?_)
  · obtain ⟨a, ns, rfl, _⟩ := h
    rfl
  · obtain ⟨a, ns, rfl, sq, few, q⟩ := h
    refine ⟨_, (pss_cons (ps_set (i := 1) sc_law_deck.nd rfl (Or.inl rfl) pe_int)
      (pss_cons (ps_for PassesOwn.never rfl (pi_list (pe_slice sl_list (pv 0) po_none (po_some pe_int))) (pg_name (i := 2) sc_law_deck.nd rfl (by first | exact Or.inl rfl | exact Or.inr rfl)) (pss_one (ps_if (pt_cmpR op_ge (pe_callB call_abs (by rfl) T.b_abs bo_abs (pa_cons (pv 2) pa_nil)) (pe_op op_pow pe_int pe_int) (nomark _)) (pss_one (ps_set (i := 1) sc_law_deck.nd rfl (Or.inl rfl) (pe_op op_add (pe_op op_mul (pv 1) pe_int) (pe_callB call_abs (by rfl) T.b_abs bo_abs (pa_cons (pv 2) pa_nil))))) pss_nil)))
      (pss_one (ps_ret (pe_disp (pps_cons pe_str (pe_op op_cat (pe_callTy call_list_of (by rfl) T.b_list bo_list (pa_cons (pe_slice sl_list (pv 0) po_none (po_some pe_int)) pa_nil)) (pe_lst (pa_cons (pe_op op_add (pe_callB call_len_seq (by rfl) T.b_len bo_len (pa_cons (pv 0) pa_nil)) pe_int) pa_nil))) (pps_cons pe_str pe_int (pps_cons pe_str (pv 1) pps_nil))) rfl rfl (by simp) (by decide)))))), ?_⟩
    refine ⟨_, rfl, _, rfl, a, _, rfl, sq, fun l hl => ?_⟩
    have s1 : L2.Same H (upd H l (.lst (cutV (ns.map V.int) none (some 57)))) := same_upd hl
    have el : upd H l (.lst (cutV (ns.map V.int) none (some 57))) l = some (.lst ((ns.take 57).map V.int)) := by
      rw [upd_same]
      exact congrArg (fun z => some (HO.lst z)) (cut_to ns 57)
    generalize upd H l (.lst (cutV (ns.map V.int) none (some 57))) = H1 at s1 el ⊢
    refine ⟨l, rfl, ⟨_, .of el⟩, for_list (xs := (ns.take 57).map V.int) (fun i σ H' => ∃ (g : Int) (x : Option V), σ = [some (.ref a), some (.int g), x] ∧ H' = H1 ∧ 0 ≤ g) ⟨0, _, rfl, rfl, Int.le_refl _⟩ (fun i σ H' _ ⟨_, _, _, e, _⟩ => e ▸ .of el) ?_ ?_⟩
    · rintro i x σ H2 hx ⟨g, _, rfl, rfl, g0⟩
      rw [List.getElem?_map] at hx
      obtain ⟨z, hz, rfl⟩ := Option.map_eq_some_iff.mp hx
      refine ⟨_, rfl, z, rfl, _, _, rfl, rfl, ⟨by decide, by decide, by decide⟩, _, _, rfl, rfl, _, rfl, ?_⟩
      refine ite2 (fun _ => ?_) (fun _ => ?_)
      · refine ⟨_, rfl, _, _, rfl, rfl, .inr ⟨by decide, by decide⟩, _, rfl, z, rfl, _, _, rfl, rfl, _, _, rfl, rfl, ?_⟩
        split <;> omega
      · exact ⟨g, _, rfl, rfl, g0⟩
    · rintro σ H2 ⟨g, x, rfl, rfl, g0⟩
      refine fun d hd => ?_
      have s2 := sNew (o := .dK []) s1 hd
      have ed : upd H2 d (.dK []) d = some (.dK []) := upd_same
      generalize upd H2 d (.dK []) = H3 at s2 ed ⊢
      have hd0 : H d = none := s1.free hd
      refine ⟨_, rfl, _, rfl, a, _, rfl, s2.seq sq, fun l1 h1 => ?_⟩
      have s3 := sNew (o := .lst (cutV (ns.map V.int) none (some 57))) s2 h1
      have e1 : upd H3 l1 (.lst (cutV (ns.map V.int) none (some 57))) l1 = some (.lst ((ns.take 57).map V.int)) := by
        rw [upd_same]
        exact congrArg (fun z => some (HO.lst z)) (cut_to ns 57)
      have ed1 : upd H3 l1 (.lst (cutV (ns.map V.int) none (some 57))) d = some (.dK []) := (same_upd h1) _ _ ed
      generalize upd H3 l1 (.lst (cutV (ns.map V.int) none (some 57))) = H4 at s3 e1 ed1 ⊢
      refine ⟨l1, _, rfl, .inl (.of e1), fun l2 h2 => ?_⟩
      have s4 := sNew (o := .lst ((ns.take 57).map V.int)) s3 h2
      have e2 : upd H4 l2 (.lst ((ns.take 57).map V.int)) l2 = some (.lst ((ns.take 57).map V.int)) := upd_same
      have ed2 : upd H4 l2 (.lst ((ns.take 57).map V.int)) d = some (.dK []) := (same_upd h2) _ _ ed1
      generalize upd H4 l2 (.lst ((ns.take 57).map V.int)) = H5 at s4 e2 ed2 ⊢
      refine ⟨_, rfl, a, _, rfl, .inl (s4.seq sq), _, _, rfl, rfl, (by show 1 ≤ sizeLine; decide), fun l3 h3 => ?_⟩
      dsimp only
      have s5 := sNew (o := .lst [.int (((ns.map V.int).length : Nat) + 23)]) s4 h3
      have e3 : upd H5 l3 (.lst [.int (((ns.map V.int).length : Nat) + 23)]) l3 = some (.lst [.int (((ns.map V.int).length : Nat) + 23)]) := upd_same
      have e23 := (same_upd (o := .lst [.int (((ns.map V.int).length : Nat) + 23)]) h3) _ _ e2
      have ed3 := (same_upd (o := .lst [.int (((ns.map V.int).length : Nat) + 23)]) h3) _ _ ed2
      generalize upd H5 l3 (.lst [.int (((ns.map V.int).length : Nat) + 23)]) = H6 at s5 e3 e23 ed3 ⊢
      have lt57 : (ns.take 57).length ≤ 57 := by
        rw [List.length_take]
        omega
      refine ⟨l2, l3, _, _, rfl, rfl, e23, e3, by rw [List.length_map, List.length_singleton, sizeLine_eq]; omega, fun c hc => ?_⟩
      have ec : upd H6 c (.lst ((ns.take 57).map V.int ++ [.int (((ns.map V.int).length : Nat) + 23)])) c = some (.lst ((ns.take 57 ++ [(((ns.map V.int).length : Nat) : Int) + 23]).map V.int)) := by
        rw [upd_same, List.map_append]
        rfl
      have ed4 := (same_upd (o := .lst ((ns.take 57).map V.int ++ [.int (((ns.map V.int).length : Nat) + 23)])) hc) _ _ ed3
      have s6 := sNew (o := .lst ((ns.take 57).map V.int ++ [.int (((ns.map V.int).length : Nat) + 23)])) s5 hc
      generalize upd H6 c (.lst ((ns.take 57).map V.int ++ [.int (((ns.map V.int).length : Nat) + 23)])) = H7 at s6 ec ed4 ⊢
      refine ⟨_, rfl, ed4, deckK c 0 g, rfl, by show 3 ≤ 15; decide, ?_⟩
      rw [merge_deck]
      have cd : c ≠ d := ne_of ec ed4 (fun z => by cases z)
      refine q _ d c (sUp s6 hd0) ⟨_, 0, g, upd_same, by rw [upd_ne cd]; exact ec, by rw [List.length_append, List.length_singleton]; omega, by rw [List.length_append, List.length_singleton]; omega, Int.le_refl _, Int.le_refl _, g0⟩
theorem sc_law_one : FnScope ["_law_deck_here", "_law_items"] ["_law_deck_here", "_law_items"] (defScope t_law_one) := ⟨rfl, rfl, rfl, by decide +kernel, rfl, by decide +kernel, by decide +kernel⟩
theorem ok_law_one (T : Txt K mg CP CS) : C8.Cal P w K mg base 2 "_law_one" sp_law_one [] := by
  have c_law_take := ok_law_take (P := P) (w := w) (base := base) T
  refine cal_of T.d_law_one sc_law_one (fun _ _ _ _ _ _ us hl => match us, hl with | [_, _], _ => rfl) (fun vs H Q E h => ?_) (fun f cdv A outer s H vs Q E hr h => ?_)
  · obtain ⟨d, dc, n, p, xs, rfl, _⟩ := h
    rfl
  · obtain ⟨d, dc, n, p, xs, rfl, dk, n9, ep, l1, l2, q⟩ := h
    obtain ⟨kvs, ed⟩ := dk.at_
    have pd : p ≠ d := ne_of ep ed (fun z => by cases z)
    refine ⟨_, (pss_one (ps_ret (pe_ix ix_list (pv 1) (C8.pe_c c_law_take hr (by decide) (by rfl) (pa_cons (pv 0) (pa_cons (pe_callB call_len_seq (by rfl) T.b_len bo_len (pa_cons (pv 1) pa_nil)) pa_nil))) (fun _ _ => rfl)))), ?_⟩
    refine ⟨_, rfl, _, rfl, _, rfl, _, _, rfl, .inl (.of ep), d, dc, n, xs.length, rfl, dk, by omega, l1, l2, fun H' r fr dk' lt => ?_⟩
    have hr : xs[r]? = some xs[r] := List.getElem?_eq_getElem lt
    exact ⟨p, xs, _, _, rfl, rfl, .of (fr _ _ ep pd), atI_nat hr, q H' _ fr dk' (List.getElem_mem lt)⟩
theorem sc_law_role : FnScope ["_law_deck_here", "_law_owners", "_law_labels"] ["_law_deck_here", "_law_owners", "_law_labels"] (defScope t_law_role) := ⟨rfl, rfl, rfl, by decide +kernel, rfl, by decide +kernel, by decide +kernel⟩
theorem ok_law_role (T : Txt K mg CP CS) : C8.Cal P w K mg base 2 "_law_role" sp_law_role [] := by
  have c_law_take := ok_law_take (P := P) (w := w) (base := base) T
  refine cal_of T.d_law_role sc_law_role (fun _ _ _ _ _ _ us hl => match us, hl with | [_, _, _], _ => rfl) (fun vs H Q E h => ?_) (fun f cdv A outer s H vs Q E hr h => ?_)
  · obtain ⟨d, dc, n, o, l, rfl, _⟩ := h
    rfl
  · obtain ⟨d, dc, n, o, l, rfl, dk, n8, o1, o8, l1, l8, q⟩ := h
    refine ⟨_, (pss_one (ps_ret (pe_tup (pa_cons (C8.pe_c c_law_take hr (by decide) (by rfl) (pa_cons (pv 0) (pa_cons (pv 1) pa_nil))) (pa_cons (C8.pe_c c_law_take hr (by decide) (by rfl) (pa_cons (pv 0) (pa_cons (pv 2) pa_nil))) pa_nil))))), ?_⟩
    refine ⟨_, rfl, _, rfl, d, dc, n, o, rfl, dk, by omega, o1, by omega, fun H1 x fr1 dk1 x1 => ?_⟩
    refine ⟨_, rfl, _, rfl, d, dc, n + 1, l, rfl, dk1, by omega, l1, by omega, fun H2 y fr2 dk2 y1 => ⟨(by show 2 ≤ sizeLine; decide), fun p hp => ?_⟩⟩
    exact q _ (x, y) _ ((fr1.trans fr2).new hp) (dk2.same (same_upd hp)) ⟨x1, y1⟩ (mkR (r := (x, y)) upd_same)
theorem sc_law_body : FnScope ["_law_deck_here", "_law_owners", "_law_labels", "_law_is_plain", "_law_word", "_law_one_here", "_law_other"] ["_law_deck_here", "_law_owners", "_law_labels", "_law_is_plain"] (defScope t_law_body) := ⟨rfl, rfl, rfl, by decide +kernel, rfl, by decide +kernel, by decide +kernel⟩
theorem ok_law_body (T : Txt K mg CP CS) : C8.Cal P w K mg base 3 "_law_body" sp_law_body [] := by
  have c_law_take := ok_law_take (P := P) (w := w) (base := base) T
  have c_law_one := ok_law_one (P := P) (w := w) (base := base) T
  have c_law_role := ok_law_role (P := P) (w := w) (base := base) T
  refine cal_of T.d_law_body sc_law_body (fun _ _ _ _ _ _ us hl => match us, hl with | [_, _, _, _], _ => rfl) (fun vs H Q E h => ?_) (fun f cdv A outer s H vs Q E hr h => ?_)
  · obtain ⟨d, dc, n, o, l, rfl, _⟩ := h
    rfl
  · obtain ⟨d, dc, n, o, l, rfl, dk, n7, o1, o8, l1, l8, q⟩ := h
    refine ⟨_, (pss_cons (ps_set (i := 4) sc_law_body.nd rfl (Or.inl rfl) (C8.pe_c c_law_one hr (by decide) (by rfl) (pa_cons (pv 0) (pa_cons (pe_op op_cat (pe_lst (pa_cons pe_str (pa_cons pe_str (pa_cons pe_str (pa_cons pe_str (pa_cons pe_str pa_nil)))))) (pe_ifExp (pt_val (pv 3)) (pe_lst pa_nil) (pe_lst (pa_cons pe_str (pa_cons pe_str pa_nil))))) pa_nil))))
      (pss_cons (ps_if (pt_cmpR op_eq (pv 4) pe_str (nomark _)) (pss_one (ps_ret (pe_tup (pa_cons pe_str (pa_cons (C8.pe_c c_law_take hr (by decide) (by rfl) (pa_cons (pv 0) (pa_cons (pv 1) pa_nil))) pa_nil))))) pss_nil)
      (pss_cons (ps_par (i := 5) (j := 6) rfl sc_law_body.nd rfl rfl (by decide) rfl rfl (pa_cons (C8.pe_c c_law_role hr (by decide) (by rfl) (pa_cons (pv 0) (pa_cons (pv 1) (pa_cons (pv 2) pa_nil)))) (pa_cons (C8.pe_c c_law_role hr (by decide) (by rfl) (pa_cons (pv 0) (pa_cons (pv 1) (pa_cons (pv 2) pa_nil)))) pa_nil)) rfl)
      (pss_cons (ps_if (pt_cmpR op_eq (pv 4) pe_str (nomark _)) (pss_one (ps_ret (pe_tup (pa_cons pe_str (pa_cons (pv 5) (pa_cons (C8.pe_c c_law_take hr (by decide) (by rfl) (pa_cons (pv 0) (pa_cons (pv 2) pa_nil))) pa_nil)))))) pss_nil)
      (pss_cons (ps_if (PW.pt (pw_or (pt_cmpR op_eq (pv 4) pe_str (nomark _)) (pw_or1 (pt_cmpR (op_eqN hr.units) (pv 5) (pv 6) (nomark _))))) (pss_one (ps_ret (pe_tup (pa_cons pe_str (pa_cons (pv 5) pa_nil))))) pss_nil)
      (pss_one (ps_ret (pe_tup (pa_cons pe_str (pa_cons (pe_callB (call_min2N rfl hr.units) (by rfl) T.b_min bo_min (pa_cons (pv 5) (pa_cons (pv 6) pa_nil))) (pa_cons (pe_callB (call_max2N rfl hr.units) (by rfl) T.b_max bo_max (pa_cons (pv 5) (pa_cons (pv 6) pa_nil))) pa_nil))))))))))), ?_⟩
    refine ⟨_, rfl, (by show 5 ≤ sizeLine; decide), fun p1 h1 => ⟨_, rfl, true, rfl, iteT ⟨by decide, fun p2 h2 => ?_⟩⟩⟩
    have s1 : L2.Same H (upd H p1 (.lst [.str "owner", .str "owner", .str "role", .str "role", .str "both"])) := same_upd h1
    have s2 := sNew (o := .lst []) s1 h2
    have e1 := (same_upd (o := .lst []) h2) _ _ (upd_same (H := H) (a := p1) (o := .lst [.str "owner", .str "owner", .str "role", .str "role", .str "both"]))
    refine ⟨p1, p2, _, _, rfl, rfl, e1, upd_same, (by show 5 ≤ sizeLine; decide), fun p3 h3 => ?_⟩
    have s3 := sNew (o := .lst ([.str "owner", .str "owner", .str "role", .str "role", .str "both"] ++ [])) s2 h3
    refine ⟨d, dc, n, p3, _, rfl, dk.same s3, by omega, upd_same, by decide, by decide, fun H1 v fr1 dk1 hv => ?_⟩
    have fr01 : Fr d H H1 := (Fr.of s3).trans fr1
    have word : v = .str "owner" ∨ v = .str "role" ∨ v = .str "both" := by simpa using hv
    rcases word with rfl | rfl | rfl
    · refine ⟨_, rfl, rfl, _, rfl, ifT (by decide +kernel) ?_⟩
      refine ⟨_, rfl, _, rfl, d, dc, n + 1, o, rfl, dk1, by omega, o1, by omega, fun H2 x fr2 dk2 x1 => ⟨(by show 2 ≤ sizeLine; decide), fun p hp => ?_⟩⟩
      exact q _ (.own x) _ ((fr01.trans fr2).new hp) ((dk2.same (same_upd hp)).mono (by omega)) x1 (.tup upd_same (.cons (.text _) (.cons (.num _) .nil)))
    · refine ⟨_, rfl, rfl, _, rfl, ifF (by decide +kernel) ?_⟩
      refine ⟨_, rfl, _, rfl, _, rfl, d, dc, n + 1, o, l, rfl, dk1, by omega, o1, o8, l1, l8, fun H2 r1 v1 fr2 dk2 k1 d1 => ?_⟩
      refine ⟨_, rfl, _, rfl, _, rfl, d, dc, n + 3, o, l, rfl, dk2, by omega, o1, o8, l1, l8, fun H3 r2 v2 fr3 dk3 k2 d2 => ⟨_, _, rfl, ?_⟩⟩
      have d13 := d1.mono (fr3.tk dk2)
      refine ⟨_, rfl, rfl, _, rfl, ifF (by decide +kernel) ?_⟩
      refine ⟨_, rfl, rfl, _, rfl, ifT (by decide +kernel) ⟨_, rfl, (by show 2 ≤ sizeLine; decide), fun p hp => ?_⟩⟩
      exact q _ (.rol r1) _ (((fr01.trans fr2).trans fr3).new hp) ((dk3.same (same_upd hp)).mono (by omega)) k1 (.tup upd_same (.cons (.text _) (.cons (d13.mono (tk_upd hp)) .nil)))
    · refine ⟨_, rfl, rfl, _, rfl, ifF (by decide +kernel) ?_⟩
      refine ⟨_, rfl, _, rfl, _, rfl, d, dc, n + 1, o, l, rfl, dk1, by omega, o1, o8, l1, l8, fun H2 r1 v1 fr2 dk2 k1 d1 => ?_⟩
      refine ⟨_, rfl, _, rfl, _, rfl, d, dc, n + 3, o, l, rfl, dk2, by omega, o1, o8, l1, l8, fun H3 r2 v2 fr3 dk3 k2 d2 => ⟨_, _, rfl, ?_⟩⟩
      have d13 := d1.mono (fr3.tk dk2)
      have fr := (fr01.trans fr2).trans fr3
      refine ⟨_, rfl, rfl, _, rfl, ifF (by decide +kernel) ?_⟩
      refine ⟨_, rfl, rfl, _, rfl, ifF (by decide +kernel) ?_⟩
      refine ⟨_, rfl, _, rfl, _, _, d13, d2, dep_eR r1, _, rfl, ?_⟩
      refine ite2 (fun _ => ?_) (fun hb => ?_)
      · refine ⟨_, rfl, (by show 2 ≤ sizeLine; decide), fun p hp => ?_⟩
        exact q _ (.rol r1) _ (fr.new hp) ((dk3.same (same_upd hp)).mono (by omega)) k1 (.tup upd_same (.cons (.text _) (.cons (d13.mono (tk_upd hp)) .nil)))
      · have ne : r1 ≠ r2 := fun e => hb (decide_eq_true (by rw [e]))
        refine ⟨_, rfl, _, rfl, v1, v2, _, _, _, _, rfl, d13, d2, _, rfl, _, rfl, v1, v2, _, _, _, _, rfl, d13, d2, (by show 3 ≤ sizeLine; decide), fun p hp => ?_⟩
        have sm1 := k1.sm o8 l8
        have sm2 := k2.sm o8 l8
        obtain ⟨a1, b1⟩ := r1
        obtain ⟨a2, b2⟩ := r2
        have dk4 := (dk3.same (same_upd (o := .tup [.str "both", (if ((a2 : Nat) : Int) < (a1 : Nat) ∨ (((a2 : Nat) : Int) = (a1 : Nat) ∧ ((b2 : Nat) : Int) < (b1 : Nat)) then v2 else v1), (if ((a1 : Nat) : Int) < (a2 : Nat) ∨ (((a1 : Nat) : Int) = (a2 : Nat) ∧ ((b1 : Nat) : Int) < (b2 : Nat)) then v2 else v1)]) hp)).mono (show n + 5 ≤ n + 6 by omega)
        have h1 := sm1.2
        have h2 := sm2.2
        by_cases lt : a2 < a1 ∨ (a2 = a1 ∧ b2 < b1)
        · have c1 : ((a2 : Nat) : Int) < (a1 : Nat) ∨ (((a2 : Nat) : Int) = (a1 : Nat) ∧ ((b2 : Nat) : Int) < (b1 : Nat)) := by omega
          have c2 : ¬ (((a1 : Nat) : Int) < (a2 : Nat) ∨ (((a1 : Nat) : Int) = (a2 : Nat) ∧ ((b1 : Nat) : Int) < (b2 : Nat))) := by omega
          refine q _ (.bth (a2, b2) (a1, b1)) _ (fr.new hp) dk4 ⟨k2, k1, ?_⟩ (.tup upd_same ?_)
          · show a2 * 8 + b2 < a1 * 8 + b1
            simp only at h1 h2
            omega
          · rw [if_pos c1, if_neg c2]
            exact .cons (.text _) (.cons (d2.mono (tk_upd hp)) (.cons (d13.mono (tk_upd hp)) .nil))
        · have c1 : ¬ (((a2 : Nat) : Int) < (a1 : Nat) ∨ (((a2 : Nat) : Int) = (a1 : Nat) ∧ ((b2 : Nat) : Int) < (b1 : Nat))) := by omega
          have ne2 : ¬ (a1 = a2 ∧ b1 = b2) := fun z => ne (by rw [z.1, z.2])
          have c2 : ((a1 : Nat) : Int) < (a2 : Nat) ∨ (((a1 : Nat) : Int) = (a2 : Nat) ∧ ((b1 : Nat) : Int) < (b2 : Nat)) := by omega
          refine q _ (.bth (a1, b1) (a2, b2)) _ (fr.new hp) dk4 ⟨k1, k2, ?_⟩ (.tup upd_same ?_)
          · show a1 * 8 + b1 < a2 * 8 + b2
            simp only at h1 h2
            omega
          · rw [if_neg c1, if_pos c2]
            exact .cons (.text _) (.cons (d13.mono (tk_upd hp)) (.cons (d2.mono (tk_upd hp)) .nil))
end
end G53


/-! The walk: _law_grants, _law_some, _law_plain. -/
namespace G53
open PySem PySem.Spec PyProof.Rows L2

def sp_law_grants : Sp := fun vs H Q _ => ∃ (d c : Addr) (n o l m : Nat), vs = [.ref d, .int (o : Nat), .int (l : Nat), .int (m : Nat), .bl true] ∧ Deck H d c n ∧ n ≤ 60000 ∧ 1 ≤ o ∧ o ≤ 8 ∧ 1 ≤ l ∧ l ≤ 8 ∧ m ≤ 5 ∧
  ∀ (H' : Hp) (g : Addr) (ws : List V) (gl : List Grant), Fr d H H' → Deck H' d c (n + 60) → H' g = some (.tup ws) → DVs H' (gl.map eG) ws → Grants o l gl → gl.length ≤ 5 → Q (.ref g) H'
def sp_law_some : Sp := fun vs H Q _ => ∃ (d c : Addr) (n : Nat) (p : Addr) (rs : List Role) (ws : List V), vs = [.ref d, .ref p] ∧ Deck H d c n ∧ n ≤ 60000 ∧ H p = some (.lst ws) ∧ DVs H (rs.map eR) ws ∧ rs.length ≤ 100 ∧
  ∀ (H' : Hp) (t : Addr) (fs : List V) (sm : List Role), Fr d H H' → Deck H' d c (n + rs.length) → H' t = some (.tup fs) → DVs H' (sm.map eR) fs → sm.Sublist rs → Q (.ref t) H'
def sp_law_plain : Sp := fun vs H Q _ => ∃ (d c : Addr) (n : Nat), vs = [.ref d] ∧ Deck H d c n ∧ n ≤ 50000 ∧
  ∀ (H' : Hp) (t : Addr) (o l : Nat) (g : Addr) (ws : List V) (gl : List Grant), Fr d H H' → Deck H' d c (n + 70) → H' t = some (.tup [.int (o : Nat), .int (l : Nat), .ref g]) → H' g = some (.tup ws) → DVs H' (gl.map eG) ws → Grants o l gl → gl.length ≤ 5 → 1 ≤ o → o ≤ 3 → 1 ≤ l → l ≤ 2 → Q (.ref t) H'
theorem nodup_le' : ∀ {F W : List NK}, F.Nodup → (∀ r ∈ F, r ∈ W) → F.length ≤ W.length
  | [], _, _, _ => Nat.zero_le _
  | x :: F, W, h, s => by
    obtain ⟨h1, h2⟩ := List.nodup_cons.mp h
    have hx := s x List.mem_cons_self
    have ih := nodup_le' (F := F) (W := W.erase x) h2 fun y hy => (List.mem_erase_of_ne fun e => h1 (by rw [← e]; exact hy)).mpr (s y (List.mem_cons_of_mem _ hy))
    have e := List.length_erase_of_mem hx
    have p := List.length_pos_of_mem hx
    rw [List.length_cons]
    omega
section
variable {P : Program} {w : World} {K : PySem.W.Frag} {mg : Str → Option Value} {base : Heap} {CP CS : Addr}
theorem sc_law_grants : FnScope ["_law_deck_here", "_law_owners", "_law_labels", "_law_many", "_law_is_plain", "_law_heads", "_law_found", "_law_turn", "_law_head"] ["_law_deck_here", "_law_owners", "_law_labels", "_law_many", "_law_is_plain"] (defScope t_law_grants) := ⟨rfl, rfl, rfl, by decide +kernel, rfl, by decide +kernel, by decide +kernel⟩
theorem ok_law_grants (T : Txt K mg CP CS) : C8.Cal P w K mg base 4 "_law_grants" sp_law_grants [] := by
  have c_law_one := ok_law_one (P := P) (w := w) (base := base) T
  have c_law_role := ok_law_role (P := P) (w := w) (base := base) T
  have c_law_body := ok_law_body (P := P) (w := w) (base := base) T
  refine cal_of T.d_law_grants sc_law_grants (fun _ _ _ _ _ _ us hl => match us, hl with | [_, _, _, _, _], _ => rfl) (fun vs H Q E h => ?_) (fun f cdv A outer s H vs Q E hr h => ?_)
  · obtain ⟨d, c, n, o, l, m, rfl, _⟩ := h
    rfl
  · obtain ⟨d, c, n, o, l, m, rfl, dk, n6, o1, o8, l1, l8, m5, q⟩ := h
    obtain ⟨dkv, ed⟩ := dk.at_
    refine ⟨_, (pss_cons (ps_setLc (i := 5) rfl sc_law_grants.nd rfl rfl (sw_true rfl rfl rfl (by decide +kernel)) (pi_range1 (by rfl) T.b_range (pa_cons pe_int pa_nil)) (blkOk_by (own := [("_law_turn", 7)]) (by show blkC ["_law_deck_here", "_law_owners", "_law_labels", "_law_many", "_law_is_plain", "_law_heads", "_law_found", "_law_turn", "_law_head"] (defScope t_law_grants) _ _ = true; decide +kernel)) (fun _ _ _ _ _ => (pg_name (i := 7) sc_law_grants.nd rfl (by first | exact Or.inl rfl | exact Or.inr rfl))) (fun _ _ _ _ _ => pts_nil) (fun _ _ _ _ _ => (C8.pe_c c_law_role hr (by decide) (by rfl) (pa_cons (pv 0) (pa_cons (pv 1) (pa_cons (pv 2) pa_nil))))))
      (pss_cons (ps_set (i := 6) sc_law_grants.nd rfl (Or.inl rfl) (pe_lst pa_nil))
      (pss_cons (ps_for PassesOwn.never rfl (pi_range1 (by rfl) T.b_range (pa_cons (pv 3) pa_nil)) (pg_name (i := 7) sc_law_grants.nd rfl (by first | exact Or.inl rfl | exact Or.inr rfl)) (pss_cons (ps_set (i := 8) sc_law_grants.nd rfl (Or.inl rfl) (C8.pe_c c_law_one hr (by decide) (by rfl) (pa_cons (pv 0) (pa_cons (pe_op op_cat (pv 5) (pe_lst (pa_cons (C8.pe_c c_law_role hr (by decide) (by rfl) (pa_cons (pv 0) (pa_cons (pv 1) (pa_cons (pv 2) pa_nil)))) pa_nil))) pa_nil))))
      (pss_one (ps_expr (pe_bm PySem.F.plainAttrs_list PySem.F.slot_list_append PySem.F.type_list_append mt_append (pv 6) (pa_cons (pe_tup (pa_cons (pv 8) (pa_cons (C8.pe_c c_law_body hr (by decide) (by rfl) (pa_cons (pv 0) (pa_cons (pv 1) (pa_cons (pv 2) (pa_cons (pv 4) pa_nil))))) pa_nil))) pa_nil))))))
      (pss_one (ps_ret (pe_callTy call_tuple_of (by rfl) T.b_tuple bo_tuple (pa_cons (pe_callB (cr_sortN rankedG rfl hr.units) (by rfl) T.b_sorted bo_sorted (pa_cons (pe_callTy (cr_setN rfl hr.units) (by rfl) T.b_set bo_set (pa_cons (pv 6) pa_nil)) pa_nil)) pa_nil))))))), ?_⟩
    refine ⟨_, rfl, by decide, by decide, fun D hD => lc_range (fun k H' => Fr d H H' ∧ Deck H' d c (n + 2 * k) ∧ ∃ (hs : List Role) (ws : List V), H' D = some (.lst ws) ∧ DVs H' (hs.map eR) ws ∧ hs.length = k ∧ ∀ r ∈ hs, OkR o l r) ⟨(Fr.refl d H).new hD, dk.same (same_upd hD), [], [], upd_same, .nil, rfl, by simp⟩ ?_ ?_⟩
    · rintro k H1 hk ⟨fr, dk1, hs, ws, eD, dD, lh, okh⟩
      have hk : k < 3 := hk
      refine ⟨rfl, _, rfl, _, rfl, _, rfl, d, c, n + 2 * k, o, l, rfl, dk1, by omega, o1, o8, l1, l8, fun H2 r v fr2 dk2 okr dr => ?_⟩
      have nDd : D ≠ d := (ne_of_none ed hD).symm
      have eD2 := fr2 _ _ eD nDd
      have tp := tk_put (o := .lst (ws ++ [v])) eD2
      have lw : ws.length = k := by rw [← dD.len, List.length_map, lh]
      refine ⟨ws, eD2, by rw [sizeLine_eq]; omega, (fr.trans fr2).up hD, (dk.up dk2 hD).mono (by omega), hs ++ [r], _, upd_same, ?_, by rw [List.length_append, lh, List.length_singleton], fun x hx => ?_⟩
      · rw [List.map_append]
        exact ((dD.mono (fr2.tk dk1)).snoc dr).mono tp
      · rcases List.mem_append.mp hx with hx | hx
        · exact okh x hx
        · rw [List.mem_singleton.mp hx]
          exact okr
    · rintro H1 ⟨fr1, dk1, hs, hw, eD, dD, lh, okh⟩
      have lh : hs.length = 3 := lh
      have dk1 : Deck H1 d c (n + 6) := dk1
      have lw : hw.length = 3 := by rw [← dD.len, List.length_map, lh]
      have nDd : D ≠ d := (ne_of_none ed hD).symm
      refine ⟨by decide, fun pf hpf => ?_⟩
      have hpf0 : H pf = none := by
        by_cases z : pf = d
        · exact absurd hpf (by rw [z]; obtain ⟨kv, q⟩ := dk1.at_; rw [q]; exact fun y => by cases y)
        · cases hq : H pf with
          | none => rfl
          | some u =>
            rw [fr1 _ _ hq z] at hpf
            cases hpf
      have npd : pf ≠ d := (ne_of_none ed hpf0).symm
      have eD2 := (same_upd (o := .lst []) hpf) _ _ eD
      have npD : pf ≠ D := (ne_of_none eD hpf).symm
      refine ⟨_, rfl, _, rfl, by omega, by omega, for_range (fun i σ H' => ∃ (x7 x8 : Option V) (us : List V) (gs : List Grant), σ = [some (.ref d), some (.int (o : Nat)), some (.int (l : Nat)), some (.int (m : Nat)), some (.bl true), some (.ref D), some (.ref pf), x7, x8] ∧ Fr d H H' ∧ Tk H1 H' ∧ Deck H' d c (n + 6 + 9 * i) ∧ H' D = some (.lst hw) ∧ H' pf = some (.lst us) ∧ DVs H' (gs.map eG) us ∧ gs.length = i ∧ ∀ g ∈ gs, OkG o l g)
        ⟨_, _, [], [], rfl, fr1.new hpf, tk_upd hpf, dk1.same (same_upd hpf), eD2, upd_same, .nil, rfl, by simp⟩ ?_ ?_⟩
      · rintro i σ H2 hi ⟨_, _, us, gs, rfl, fr2, tk2, dk2, eD3, epf, dg, lg, okg⟩
        have hi : i < m := hi
        have lus : us.length = i := by rw [← dg.len, List.length_map, lg]
        refine ⟨_, rfl, _, rfl, _, rfl, _, rfl, _, rfl, d, c, n + 6 + 9 * i, o, l, rfl, dk2, by omega, o1, o8, l1, l8, fun H3 r v fr3 dk3 okr dr => ⟨(by show 1 ≤ sizeLine; decide), fun p1 hp1 => ?_⟩⟩
        have tk3 := fr3.tk dk2
        have eD4 := fr3 _ _ eD3 nDd
        have epf3 := fr3 _ _ epf npd
        have s4 : L2.Same H3 (upd H3 p1 (.lst [v])) := same_upd hp1
        refine ⟨D, p1, hw, [v], rfl, rfl, s4 _ _ eD4, upd_same, by rw [lw, sizeLine_eq, List.length_singleton]; decide, fun p2 hp2 => ?_⟩
        have s5 := sNew (o := .lst (hw ++ [v])) s4 hp2
        have dall : DVs (upd (upd H3 p1 (.lst [v])) p2 (.lst (hw ++ [v]))) ((hs ++ [r]).map eR) (hw ++ [v]) := by
          rw [List.map_append]
          exact (dD.mono ((tk2.trans tk3).trans (.of_same s5))).snoc (dr.mono (.of_same s5))
        have dk5 := dk3.same s5
        have eD5 := s5 _ _ eD4
        have epf5 := s5 _ _ epf3
        have fr5 := (fr2.trans fr3).trans (.of s5)
        have tk5 := (tk2.trans tk3).trans (.of_same s5)
        have e2 : upd (upd H3 p1 (.lst [v])) p2 (.lst (hw ++ [v])) p2 = some (.lst (hw ++ [v])) := upd_same
        have tk25 := tk3.trans (.of_same s5)
        generalize upd (upd H3 p1 (.lst [v])) p2 (.lst (hw ++ [v])) = H5 at dall dk5 eD5 epf5 fr5 tk5 e2 tk25 ⊢
        refine ⟨d, c, n + 6 + 9 * i + 2, p2, _, rfl, dk5, by omega, e2, by rw [List.length_append]; simp, by rw [List.length_append, lw, List.length_singleton]; decide, fun H6 hv fr6 dk6 hm => ?_⟩
        obtain ⟨j, hj⟩ := List.mem_iff_getElem?.mp hm
        obtain ⟨hr0, hjr, dh⟩ := dvsR dall hj
        have okh0 : OkR o l hr0 := by
          rcases List.mem_append.mp (List.mem_of_getElem? hjr) with z | z
          · exact okh _ z
          · rw [List.mem_singleton.mp z]
            exact okr
        have tk6 := fr6.tk dk5
        have eD6 := fr6 _ _ eD5 nDd
        have epf6 := fr6 _ _ epf5 npd
        have dh6 := dh.mono tk6
        refine ⟨_, rfl, .inl ⟨rfl, _, .of epf6⟩, _, rfl, _, rfl, _, rfl, _, rfl, _, rfl, d, c, n + 6 + 9 * i + 3, o, l, rfl, dk6, by omega, o1, o8, l1, l8, fun H7 b bv fr7 dk7 okb db => ⟨(by show 2 ≤ sizeLine; decide), fun e he => ?_⟩⟩
        have tk7 := fr7.tk dk6
        have s8 : L2.Same H7 (upd H7 e (.tup [hv, bv])) := same_upd he
        have epf8 := s8 _ _ (fr7 _ _ epf6 npd)
        have tp := tk_put (o := .lst (us ++ [.ref e])) epf8
        have tk28 := ((tk25.trans tk6).trans tk7).trans (.of_same s8)
        refine ⟨pf, us, .ref e, rfl, rfl, epf8, by rw [lus, sizeLine_eq]; omega, _, _, us ++ [.ref e], gs ++ [(hr0, b)], rfl, (((fr5.trans fr6).trans fr7).trans (.of s8)).up hpf0, (((tk5.trans tk6).trans tk7).trans (.of_same s8)).trans tp, (dk.up (dk7.same s8) hpf0).mono (by omega), ?_, upd_same, ?_, by rw [List.length_append, lg, List.length_singleton], fun g hg => ?_⟩
        · rw [upd_ne npD.symm]
          exact s8 _ _ (fr7 _ _ eD6 nDd)
        · rw [List.map_append]
          exact ((dg.mono tk28).snoc (.tup upd_same (.cons ((dh6.mono tk7).mono (.of_same s8)) (.cons (db.mono (.of_same s8)) .nil)))).mono tp
        · rcases List.mem_append.mp hg with hg | hg
          · exact okg g hg
          · rw [List.mem_singleton.mp hg]
            exact ⟨okh0, okb⟩
      · rintro σ H2 ⟨_, _, us, gs, rfl, fr2, tk2, dk2, eD3, epf, dg, lg, okg⟩
        have lg : gs.length = m := lg
        have dk2 : Deck H2 d c (n + 6 + 9 * m) := dk2
        have smG : ∀ g ∈ gs, SmG g := fun g hg => (okg g hg).sm o8 l8
        obtain ⟨L, lk, lv, lc⟩ := cels_of dg fun k hk => by
          obtain ⟨g, _, e⟩ := List.mem_map.mp hk
          exact ⟨_, e.symm⟩
        have lL : L.length ≤ 5 := by
          have z := congrArg List.length lk
          rw [List.length_map, List.length_map] at z
          omega
        rw [← lv] at epf
        have mem : ∀ p ∈ L, ∃ g, p.2 = eG g ∧ g ∈ gs := fun p hp => by
          obtain ⟨g, hg, e⟩ := List.mem_map.mp (lk ▸ List.mem_map_of_mem (f := fun x : Cel => x.2) hp)
          exact ⟨g, e.symm, hg⟩
        refine ⟨_, rfl, pf, L, rfl, .of epf, lc, fun p hp => ?_, by omega, fun b M hb sub all nd lt => ⟨b, M, rfl, .inr (.inr upd_same), fun p hp => (lc p (sub p hp)).mono (tk_upd hb), fun p hp => ?_, lt, fun q' M2 hq' pm pw => ⟨q', _, rfl, .inl ⟨.of upd_same, fun t ht => ?_⟩⟩⟩⟩
        · obtain ⟨g, e, _⟩ := mem p hp
          rw [e]
          exact dep_eG g
        · obtain ⟨g, e, hg⟩ := mem p (sub p hp)
          exact ⟨g, e, smG g hg⟩
        · obtain ⟨gl, e1, e2, e4⟩ := sorted_grants (tot := gs) (fun p hp => mem p (sub p (pm.mem_iff.mp hp))) ((pm.map (·.2)).nodup_iff.mpr nd) smG pw
          have c3 : Cels (upd (upd (upd H2 b (SetD w b M)) q' (.lst (M2.map cv))) t (.tup (M2.map cv))) M2 := fun p hp => (((lc p (sub p (pm.mem_iff.mp hp))).mono (tk_upd hb)).mono (tk_upd hq')).mono (tk_upd ht)
          have sF : L2.Same H2 (upd (upd (upd H2 b (SetD w b M)) q' (.lst (M2.map cv))) t (.tup (M2.map cv))) := sNew (sNew (same_upd hb) hq') ht
          have gnd : gl.Nodup := e2.imp fun {a b} q e => by
            rw [e] at q
            exact Nat.lt_irrefl _ q
          have lgl : gl.length ≤ 5 := by
            have ndM : (M.map (·.2)).length ≤ L.length := by
              have z : (M.map (·.2)).length ≤ (L.map (·.2)).length := nodup_le' nd fun k hk => by
                obtain ⟨p, hp, e⟩ := List.mem_map.mp hk
                exact e ▸ List.mem_map_of_mem (f := fun x : Cel => x.2) (sub p hp)
              rw [List.length_map] at z
              rw [List.length_map] at z ⊢
              exact z
            have z := congrArg List.length e1
            rw [List.length_map, List.length_map, pm.length_eq] at z
            rw [List.length_map] at ndM
            omega
          refine q _ t _ gl (fr2.trans (.of sF)) ((dk2.same sF).mono (by omega)) upd_same ?_ ⟨fun g hg => okg g (e4 g hg), e2⟩ lgl
          rw [← e1]
          exact cels_dvs c3
theorem sc_law_some : FnScope ["_law_deck_here", "_law_items", "_law_item"] ["_law_deck_here", "_law_items"] (defScope t_law_some) := ⟨rfl, rfl, rfl, by decide +kernel, rfl, by decide +kernel, by decide +kernel⟩
theorem ok_law_some (T : Txt K mg CP CS) : C8.Cal P w K mg base 2 "_law_some" sp_law_some [] := by
  have c_law_take := ok_law_take (P := P) (w := w) (base := base) T
  refine cal_of T.d_law_some sc_law_some (fun _ _ _ _ _ _ us hl => match us, hl with | [_, _], _ => rfl) (fun vs H Q E h => ?_) (fun f cdv A outer s H vs Q E hr h => ?_)
  · obtain ⟨d, c, n, p, rs, ws, rfl, _⟩ := h
    rfl
  · obtain ⟨d, c, n, p, rs, ws, rfl, dk, n6, ep, dp, few, q⟩ := h
    obtain ⟨dkv, ed⟩ := dk.at_
    have npd : p ≠ d := ne_of ep ed (fun z => by cases z)
    have lw : ws.length = rs.length := by rw [← dp.len, List.length_map]
    refine ⟨_, (pss_one (ps_ret (pe_callTy call_tuple_of (by rfl) T.b_tuple bo_tuple (pa_cons (pe_lc rfl sc_law_some.nd (pi_list (pv 1)) (blkOk_by (own := [("_law_item", 2)]) (by show blkC ["_law_deck_here", "_law_items", "_law_item"] (defScope t_law_some) _ _ = true; decide +kernel)) (fun _ _ _ _ _ => (pg_name (i := 2) sc_law_some.nd rfl (by first | exact Or.inl rfl | exact Or.inr rfl))) (fun _ _ _ _ _ => (pts_one (pt_cmpR op_eq (C8.pe_c c_law_take hr (by decide) (by rfl) (pa_cons (pv 0) (pa_cons pe_int pa_nil))) pe_int (nomark _)))) (fun _ _ _ _ _ => (pv 2))) pa_nil)))), ?_⟩
    refine ⟨_, rfl, p, rfl, ⟨_, .of ep⟩, fun D hD => lc_list (xs := ws) (fun k H' => Fr d H H' ∧ Deck H' d c (n + k) ∧ ∃ (sm : List Role) (fs : List V), H' D = some (.lst fs) ∧ DVs H' (sm.map eR) fs ∧ sm.Sublist (rs.take k)) ⟨(Fr.refl d H).new hD, dk.same (same_upd hD), [], [], upd_same, .nil, List.nil_sublist _⟩ (fun i H' _ t => .of (t.1 _ _ ep npd)) ?_ ?_⟩
    · rintro k x H1 hx ⟨fr, dk1, sm, fs, eD, dD, sub⟩
      obtain ⟨r, hr, dr⟩ := dvsR dp hx
      have hk := (List.getElem?_eq_some_iff.mp hr).1
      have nDd : D ≠ d := (ne_of_none ed hD).symm
      refine ⟨rfl, _, rfl, d, c, n + k, 2, rfl, dk1, by omega, by decide, by decide, fun H2 z fr2 dk2 lt => ⟨rfl, _, rfl, ?_⟩⟩
      have tk2 := fr2.tk dk1
      have tk0 := fr.tk dk
      have eD2 := fr2 _ _ eD nDd
      refine ite2 (fun _ => ?_) (fun _ => ?_)
      · have tp := tk_put (o := .lst (fs ++ [x])) eD2
        have lf : fs.length ≤ 100 := by
          rw [← dD.len, List.length_map]
          have := sub.length_le
          rw [List.length_take] at this
          omega
        refine ⟨_, rfl, fs, eD2, by rw [sizeLine_eq]; omega, (fr.trans fr2).up hD, (dk.up dk2 hD).mono (by omega), sm ++ [r], _, upd_same, ?_, ?_⟩
        · rw [List.map_append]
          exact ((dD.mono tk2).snoc ((dr.mono tk0).mono tk2)).mono tp
        · rw [take_snoc hr]
          exact sub.append (List.Sublist.refl _)
      · refine ⟨fr.trans fr2, dk2.mono (by omega), sm, fs, eD2, dD.mono tk2, ?_⟩
        rw [take_snoc hr]
        exact sub.trans (List.sublist_append_left _ _)
    · rintro H1 ⟨fr, dk1, sm, fs, eD, dD, sub⟩
      rw [lw] at dk1
      rw [lw, List.take_length] at sub
      exact ⟨D, fs, rfl, .inl ⟨.of eD, fun t ht => q _ t fs sm (fr.new ht) (dk1.same (same_upd ht)) upd_same (dD.mono (tk_upd ht)) sub⟩⟩
theorem sc_law_plain : FnScope ["_law_deck_here", "_law_owners", "_law_labels"] ["_law_deck_here"] (defScope t_law_plain) := ⟨rfl, rfl, rfl, by decide +kernel, rfl, by decide +kernel, by decide +kernel⟩
theorem ok_law_plain (T : Txt K mg CP CS) : C8.Cal P w K mg base 5 "_law_plain" sp_law_plain [] := by
  have c_law_take := ok_law_take (P := P) (w := w) (base := base) T
  have c_law_one := ok_law_one (P := P) (w := w) (base := base) T
  have c_law_grants := ok_law_grants (P := P) (w := w) (base := base) T
  refine cal_of T.d_law_plain sc_law_plain (fun _ _ _ _ _ _ us hl => match us, hl with | [_], _ => rfl) (fun vs H Q E h => ?_) (fun f cdv A outer s H vs Q E hr h => ?_)
  · obtain ⟨d, c, n, rfl, _⟩ := h
    rfl
  · obtain ⟨d, c, n, rfl, dk, n5, q⟩ := h
    refine ⟨_, (pss_cons (ps_par (i := 1) (j := 2) rfl sc_law_plain.nd rfl rfl (by decide) rfl rfl (pa_cons (pe_op op_add pe_int (C8.pe_c c_law_take hr (by decide) (by rfl) (pa_cons (pv 0) (pa_cons pe_int pa_nil)))) (pa_cons (pe_op op_add pe_int (C8.pe_c c_law_take hr (by decide) (by rfl) (pa_cons (pv 0) (pa_cons pe_int pa_nil)))) pa_nil)) rfl)
      (pss_one (ps_ret (pe_tup (pa_cons (pv 1) (pa_cons (pv 2) (pa_cons (C8.pe_c c_law_grants hr (by decide) (by rfl) (pa_cons (pv 0) (pa_cons (pv 1) (pa_cons (pv 2) (pa_cons (C8.pe_c c_law_one hr (by decide) (by rfl) (pa_cons (pv 0) (pa_cons (pe_lst (pa_cons pe_int (pa_cons pe_int (pa_cons pe_int pa_nil)))) pa_nil))) (pa_cons pe_bl pa_nil)))))) pa_nil))))))), ?_⟩
    refine ⟨_, rfl, d, c, n, 3, rfl, dk, by omega, by decide, by decide, fun H1 x fr1 dk1 x3 => ⟨_, _, rfl, rfl, ?_⟩⟩
    refine ⟨_, rfl, d, c, n + 1, 2, rfl, dk1, by omega, by decide, by decide, fun H2 y fr2 dk2 y2 => ⟨_, _, rfl, rfl, _, _, rfl, ?_⟩⟩
    have ex : (1 : Int) + ((x : Nat) : Int) = ((1 + x : Nat) : Int) := by omega
    have ey : (1 : Int) + ((y : Nat) : Int) = ((1 + y : Nat) : Int) := by omega
    dsimp only
    rw [ex, ey]
    refine ⟨_, rfl, _, rfl, _, rfl, _, rfl, _, rfl, _, rfl, (by show 3 ≤ sizeLine; decide), fun p hp => ?_⟩
    have s3 : L2.Same H2 (upd H2 p (.lst [.int 1, .int 3, .int 5])) := same_upd hp
    refine ⟨d, c, n + 2, p, _, rfl, dk2.same s3, by omega, upd_same, by decide, by decide, fun H3 v fr3 dk3 hv => ?_⟩
    obtain ⟨m, rfl, m5⟩ : ∃ m : Nat, v = .int (m : Nat) ∧ m ≤ 5 := by
      have z : v = .int 1 ∨ v = .int 3 ∨ v = .int 5 := by simpa using hv
      rcases z with rfl | rfl | rfl
      · exact ⟨1, rfl, by decide⟩
      · exact ⟨3, rfl, by decide⟩
      · exact ⟨5, rfl, by decide⟩
    refine ⟨d, c, n + 3, 1 + x, 1 + y, m, rfl, dk3, by omega, by omega, by omega, by omega, by omega, m5, fun H4 g ws gl fr4 dk4 eg dg okg lg => ⟨(by show 3 ≤ sizeLine; decide), fun t ht => ?_⟩⟩
    exact q _ t (1 + x) (1 + y) g ws gl ((((fr1.trans fr2).trans (.of s3)).trans (fr3.trans fr4)).new ht) ((dk4.same (same_upd ht)).mono (by omega)) upd_same ((same_upd ht) _ _ eg) (dg.mono (tk_upd ht)) okg lg (by omega) (by omega) (by omega) (by omega)
end
end G53


/-! The walk: the law. -/
namespace G53
open PySem PySem.Spec PyProof.Rows L2

theorem cut_toV (xs : List V) (k : Nat) : cutV xs none (some (k : Int)) = xs.take k := by
  unfold cutV
  rw [HT.sIx_none, HT.sIx_nat, List.drop_zero, Nat.sub_zero, take_min]
open Classical in
noncomputable def inB (S : Stg) (r s : Role) : Bool := decide (Inner S (told S) r s)
open Classical in
theorem inB_iff {S : Stg} {r s : Role} : inB S r s = true ↔ Inner S (told S) r s := by
  unfold inB
  exact decide_eq_true_iff
abbrev eP (r s : Role) : NK := .tup [eR r, eR s]
theorem eP_inj {r s t u : Role} (h : eP r s = eP t u) : r = t ∧ s = u := by
  injection h with h
  injection h with h1 h
  injection h with h2 _
  exact ⟨eR_inj h1, eR_inj h2⟩
theorem dep_eP (r s : Role) : (eP r s).depth ≤ 8 := by
  have e : (eP r s).depth ≤ 3 := by simp [eP, eR, NestedKey.depth, NestedKey.depthAll]
  omega
def sp_law (K : PySem.W.Frag) : Sp := fun vs H Q _ => ∃ (a : Addr) (ns : List Int), vs = [.ref a] ∧ SqL K H a (ns.map V.int) ∧ ns.length ≤ 63 ∧ ∀ H', Q (.bl true) H'
section
variable {P : Program} {w : World} {K : PySem.W.Frag} {mg : Str → Option Value} {base : Heap} {CP CS : Addr}
theorem sc_law : FnScope ["_law_script", "_law_deck_here", "_law_turn", "_law_parts", "_law_every", "_law_marks", "_law_setting", "_law_some_here", "_law_inner", "_law_one_here", "_law_other", "_law_third", "_law_role_here", "_law_body_here"] ["_law_script"] (defScope t_law) := ⟨rfl, rfl, rfl, by decide +kernel, rfl, by decide +kernel, by decide +kernel⟩
theorem ok_law {f : Addr} {fd : FuncData} (T : Txt K mg CP CS) (F : Fun K "law" "law" t_law f fd) : FnOk P w K mg base CX0 12 f fd ["_law_script"] (sp_law K) := by
  have c_law_deck := ok_law_deck (P := P) (w := w) (base := base) T
  have c_law_plain := ok_law_plain (P := P) (w := w) (base := base) T
  have c_law_all_roles := ok_law_all_roles (P := P) (w := w) (base := base) T
  have c_law_some := ok_law_some (P := P) (w := w) (base := base) T
  have c_Setting := ok_S_init (P := P) (w := w) (base := base) T
  have c_Policy := ok_P_init (P := P) (w := w) (base := base) T
  have c_within := ok_within (P := P) (w := w) (base := base) T
  have c_holds := ok_holds (P := P) (w := w) (base := base) T
  refine F.ok sc_law (fun vs H Q E h => ?_) (fun cdv A outer s H vs Q E hr h => ?_)
  · obtain ⟨a, ns, rfl, _⟩ := h
    rfl
  · obtain ⟨a, ns, rfl, sq, few, q⟩ := h
    refine ⟨_, (pss_cons (ps_set (i := 1) sc_law.nd rfl (Or.inl rfl) (C8.pe_c c_law_deck hr (by decide) (by rfl) (pa_cons (pv 0) pa_nil)))
      (pss_cons (ps_for PassesOwn.never rfl (pi_range1 (by rfl) T.b_range (pa_cons pe_int pa_nil)) (pg_name (i := 2) sc_law.nd rfl (by first | exact Or.inl rfl | exact Or.inr rfl)) (pss_cons (ps_set (i := 3) sc_law.nd rfl (Or.inl rfl) (C8.pe_c c_law_plain hr (by decide) (by rfl) (pa_cons (pv 1) pa_nil)))
      (pss_cons (ps_set (i := 4) sc_law.nd rfl (Or.inl rfl) (C8.pe_c c_law_all_roles hr (by decide) (by rfl) (pa_cons (pe_ix ix_tup (pv 3) pe_int (fun _ _ => rfl)) (pa_cons (pe_ix ix_tup (pv 3) pe_int (fun _ _ => rfl)) pa_nil))))
      (pss_cons (ps_set (i := 5) sc_law.nd rfl (Or.inl rfl) (pe_tup (pa_cons (C8.pe_c c_law_some hr (by decide) (by rfl) (pa_cons (pv 1) (pa_cons (pv 4) pa_nil))) (pa_cons (C8.pe_c c_law_some hr (by decide) (by rfl) (pa_cons (pv 1) (pa_cons (pv 4) pa_nil))) pa_nil))))
      (pss_cons (ps_set (i := 6) sc_law.nd rfl (Or.inl rfl) (C8.pe_mk c_Setting hr (by decide) (by rfl) (pa_cons (C8.pe_mk c_Policy hr (by decide) (by rfl) (pa_cons (pe_ix ix_tup (pv 3) pe_int (fun _ _ => rfl)) (pa_cons (pe_ix ix_tup (pv 3) pe_int (fun _ _ => rfl)) (pa_cons (pe_ix ix_tup (pv 3) pe_int (fun _ _ => rfl)) pa_nil)))) (pa_cons (pe_ix ix_tup (pv 5) pe_int (fun _ _ => rfl)) (pa_cons (pe_ix ix_tup (pv 5) pe_int (fun _ _ => rfl)) pa_nil)))))
      (pss_cons (ps_set (i := 7) sc_law.nd rfl (Or.inl rfl) (pe_slice sl_list (pv 4) po_none (po_some pe_int)))
      (pss_cons (ps_set (i := 8) sc_law.nd rfl (Or.inl rfl) pe_newN)
      (pss_cons (ps_for PassesOwn.never rfl (pi_list (pv 7)) (pg_name (i := 9) sc_law.nd rfl (by first | exact Or.inl rfl | exact Or.inr rfl)) (pss_one (ps_for PassesOwn.never rfl (pi_list (pv 7)) (pg_name (i := 10) sc_law.nd rfl (by first | exact Or.inl rfl | exact Or.inr rfl)) (pss_one (ps_asg (pe_cmp (pc_isN (C8.pe_c c_within hr (by decide) (by rfl) (pa_cons (pv 6) (pa_cons (pv 9) (pa_cons (pv 10) pa_nil)))))) (pg_sub (pv 8) (pe_tup (pa_cons (pv 9) (pa_cons (pv 10) pa_nil))) (set_dictN hr.units)))))))
      (pss_cons (ps_for PassesOwn.never rfl (pi_list (pv 7)) (pg_name (i := 9) sc_law.nd rfl (by first | exact Or.inl rfl | exact Or.inr rfl)) (pss_cons (ps_if (pt_not (pt_val (pe_ix (ix_dictN hr.units) (pv 8) (pe_tup (pa_cons (pv 9) (pa_cons (pv 9) pa_nil))) (fun _ _ => rfl)))) (pss_one (ps_ret pe_bl)) pss_nil)
      (pss_one (ps_for PassesOwn.never rfl (pi_list (pv 7)) (pg_name (i := 10) sc_law.nd rfl (by first | exact Or.inl rfl | exact Or.inr rfl)) (pss_cons (ps_for PassesOwn.never rfl (pi_list (pv 7)) (pg_name (i := 11) sc_law.nd rfl (by first | exact Or.inl rfl | exact Or.inr rfl)) (pss_one (ps_if (PW.pt (pw_and (pt_val (pe_ix (ix_dictN hr.units) (pv 8) (pe_tup (pa_cons (pv 9) (pa_cons (pv 10) pa_nil))) (fun _ _ => rfl))) (pw_and (pt_val (pe_ix (ix_dictN hr.units) (pv 8) (pe_tup (pa_cons (pv 10) (pa_cons (pv 11) pa_nil))) (fun _ _ => rfl))) (pw_and1 (pt_not (pt_val (pe_ix (ix_dictN hr.units) (pv 8) (pe_tup (pa_cons (pv 9) (pa_cons (pv 11) pa_nil))) (fun _ _ => rfl)))))))) (pss_one (ps_ret pe_bl)) pss_nil)))
      (pss_cons (ps_if (PW.pt (pw_and (pt_cmpR (op_ltN hr.units) (pv 9) (pv 10) (nomark _)) (pw_and (pt_val (pe_ix (ix_dictN hr.units) (pv 8) (pe_tup (pa_cons (pv 9) (pa_cons (pv 10) pa_nil))) (fun _ _ => rfl))) (pw_and1 (pt_val (C8.pe_c c_holds hr (by decide) (by rfl) (pa_cons (pv 6) (pa_cons (pe_tup (pa_cons pe_str (pa_cons (pv 9) (pa_cons (pv 10) pa_nil)))) pa_nil)))))))) (pss_one (ps_if (pt_not (pt_val (C8.pe_c c_holds hr (by decide) (by rfl) (pa_cons (pv 6) (pa_cons (pe_tup (pa_cons pe_str (pa_cons (pv 9) pa_nil))) pa_nil))))) (pss_one (ps_ret pe_bl)) pss_nil)) pss_nil)
      (pss_one (ps_if (PW.pt (pw_and (pt_val (C8.pe_c c_holds hr (by decide) (by rfl) (pa_cons (pv 6) (pa_cons (pe_tup (pa_cons pe_str (pa_cons (pv 9) pa_nil))) pa_nil)))) (pw_and1 (pt_not (pt_val (pe_ix (ix_dictN hr.units) (pv 8) (pe_tup (pa_cons (pv 9) (pa_cons (pv 10) pa_nil))) (fun _ _ => rfl))))))) (pss_one (ps_ret pe_bl)) pss_nil))))))))
      (pss_one (ps_for PassesOwn.never rfl (pi_tup (pe_ix ix_tup (pv 3) pe_int (fun _ _ => rfl))) (pg_two (K := K) (i := 12) (j := 13) rfl rfl sc_law.nd rfl rfl (by first | exact Or.inl rfl | exact Or.inr rfl) (by first | exact Or.inl rfl | exact Or.inr rfl) (by first | exact Or.inl rfl | exact Or.inr rfl) (by first | exact Or.inl rfl | exact Or.inr rfl)) (pss_one (ps_if (PW.pt (pw_and (pt_cmpR op_eq (pe_ix ix_tup (pv 13) pe_int (fun _ _ => rfl)) pe_str (nomark _)) (pw_and (pt_cmpR (op_inN hr.units) (pv 12) (pe_ix ix_tup (pv 5) pe_int (fun _ _ => rfl)) (by with_unfolding_all rfl)) (pw_and1 (pt_cmp (pc_notN (C8.pe_c c_within hr (by decide) (by rfl) (pa_cons (pv 6) (pa_cons (pe_ix ix_tup (pv 13) pe_int (fun _ _ => rfl)) (pa_cons (pv 12) pa_nil)))))))))) (pss_one (ps_ret pe_bl)) pss_nil)))))))))))))
      (pss_one (ps_ret pe_bl)))), ?_⟩
    refine ⟨_, rfl, a, ns, rfl, sq, few, fun H0 d c s0 dk0 => ?_⟩
    refine ⟨_, rfl, by decide, by decide, for_range (fun i σ H' => ∃ x2 x3 x4 x5 x6 x7 x8 x9 x10 x11 x12 x13, σ = [some (.ref a), some (.ref d), x2, x3, x4, x5, x6, x7, x8, x9, x10, x11, x12, x13] ∧ Deck H' d c (100 * i)) ⟨_, _, _, _, _, _, _, _, _, _, _, _, rfl, dk0⟩ ?_ ?_⟩
    · rintro i σ H hi ⟨x2, x3, x4, x5, x6, x7, x8, x9, x10, x11, x12, x13, rfl, dk⟩
      have hi : i < 4 := hi
      refine ⟨_, rfl, d, c, 100 * i, rfl, dk, by omega, fun H1 pt o l g gws gl fr1 dk1 ept eg dg okg lg o1 o3 l1 l2 => ?_⟩
      refine ⟨_, rfl, _, _, _, _, rfl, rfl, .of (ept), rfl, _, rfl, _, _, _, _, rfl, rfl, .of (ept), rfl, o, l, rfl, by omega, by omega, fun H2 wl ww s2 ewl dwl => ?_⟩
      have lrs : (allR o l).length ≤ 6 := by
        rw [allR_len]
        exact Nat.mul_le_mul o3 l2
      have dk2 := dk1.same s2
      obtain ⟨dkv, ed2⟩ := dk2.at_
      have nwd : wl ≠ d := ne_of ewl ed2 (fun z => by cases z)
      refine ⟨_, rfl, _, rfl, d, c, 100 * i + 70, wl, allR o l, ww, rfl, dk2, by omega, ewl, dwl, by omega, fun H3 t1 f1s fxs fr3 dk3 et1 df1 sub1 => ?_⟩
      refine ⟨_, rfl, _, rfl, d, c, 100 * i + 70 + (allR o l).length, wl, allR o l, ww, rfl, dk3, by omega, fr3 _ _ ewl nwd, dwl.mono (fr3.tk dk2), by omega, fun H4 t2 f2s kps fr4 dk4 et2 df2 sub2 => ⟨(by show 2 ≤ sizeLine; decide), fun mk hmk => ?_⟩⟩
      have tk24 := (fr3.tk dk2).trans (fr4.tk dk3)
      have s5 : L2.Same H4 (upd H4 mk (.tup [.ref t1, .ref t2])) := same_upd hmk
      have emk : upd H4 mk (.tup [.ref t1, .ref t2]) mk = some (.tup [.ref t1, .ref t2]) := upd_same
      have ewl5 := s5 _ _ (fr4 _ _ (fr3 _ _ ewl nwd) nwd)
      have dwl5 := (dwl.mono tk24).mono (.of_same s5)
      have tk15 := ((Tk.of_same s2).trans tk24).trans (.of_same s5)
      have ept5 := tk15 _ _ ept
      have eg5 := tk15 _ _ eg
      have dg5 := dg.mono tk15
      have tk35 := (fr4.tk dk3).trans (.of_same s5)
      have et1' := tk35 _ _ et1
      have df1' := df1.mono tk35
      have et2' := s5 _ _ et2
      have df2' := df2.mono (.of_same s5)
      have dk5 := (dk4.same s5).mono (show 100 * i + 70 + (allR o l).length + (allR o l).length ≤ 100 * (i + 1) by omega)
      generalize upd H4 mk (.tup [.ref t1, .ref t2]) = H5 at s5 emk ewl5 dwl5 tk15 ept5 eg5 dg5 tk35 et1' df1' et2' df2' dk5 ⊢
      have asc := allR_asc l (by omega) o
      obtain ⟨S, hS⟩ : ∃ S : Stg, S = ⟨o, l, gl, fxs, kps⟩ := ⟨_, rfl⟩
      have ok : OkS S := by
        subst hS
        exact ⟨o1, o3, l1, l2, Nat.le_trans lg (by decide), okg, ⟨fun r hr => mem_allR.mp (sub1.subset hr), asc.sublist sub1⟩, ⟨fun r hr => mem_allR.mp (sub2.subset hr), asc.sublist sub2⟩⟩
      have tfew : (told S).length ≤ 10 := by
        have z := told_len S
        have z2 := Nat.mul_le_mul ok.n3 ok.l2
        omega
      have hT : ∀ r, r ∈ told S ↔ Told S r := fun r => mem_told ok.gs
      refine ⟨_, rfl, _, _, _, _, rfl, rfl, .of (ept5), rfl, _, rfl, _, _, _, _, rfl, rfl, .of (ept5), rfl, _, rfl, _, _, _, _, rfl, rfl, .of (ept5), rfl, fun x dx hx hdx ne => ⟨H5, x, dx, o, l, gl, g, gws, rfl, hx, hdx, ne, rfl, eg5, dg5, o1, by omega, l1, by omega, by omega, okg, fun H6 s6 pol => ⟨rfl, _, rfl, _, _, _, _, rfl, rfl, .of (s6 _ _ emk), rfl, _, rfl, _, _, _, _, rfl, rfl, .of (s6 _ _ emk), rfl, fun y dy hy hdy ne2 => ⟨H6, y, dy, S, x, t1, t2, f1s, f2s, rfl, hy, hdy, ne2, rfl, by rw [hS]; exact pol, s6 _ _ et1', by rw [hS]; exact df1'.mono (.of_same s6), s6 _ _ et2', by rw [hS]; exact df2'.mono (.of_same s6), ok, fun H7 s7 stg => ⟨rfl, ?_⟩⟩⟩⟩⟩
      have ewl7 := (s6.trans s7) _ _ ewl5
      have dwl7 := dwl5.mono (.of_same (s6.trans s7))
      have emk7 := (s6.trans s7) _ _ emk
      have ept7 := (s6.trans s7) _ _ ept5
      have eg7 := (s6.trans s7) _ _ eg5
      have dg7 := dg5.mono (.of_same (s6.trans s7))
      have et7 := (s6.trans s7) _ _ et2'
      have dt7 := df2'.mono (.of_same (s6.trans s7))
      have dk7 := dk5.same (s6.trans s7)
      have on : S.n = o := by rw [hS]
      have ol : S.l = l := by rw [hS]
      have gsS : S.gs = gl := by rw [hS]
      have kpS : S.kp = kps := by rw [hS]
      -- some_here = every[:5]
      refine ⟨_, rfl, _, rfl, wl, ww, rfl, .of ewl7, fun sh hsh => ?_⟩
      have s8 : L2.Same H7 (upd H7 sh (.lst (cutV ww none (some 5)))) := same_upd hsh
      have esh : upd H7 sh (.lst (cutV ww none (some 5))) sh = some (.lst (ww.take 5)) := by
        rw [upd_same]
        exact congrArg (fun z => some (HO.lst z)) (cut_toV ww 5)
      generalize upd H7 sh (.lst (cutV ww none (some 5))) = H8 at s8 esh ⊢
      have dsh : DVs H8 (((allR o l).take 5).map eR) (ww.take 5) := by
        rw [List.map_take]
        exact (dwl7.take 5).mono (.of_same s8)
      obtain ⟨here, hhere⟩ : ∃ here, here = (allR o l).take 5 := ⟨_, rfl⟩
      rw [← hhere] at dsh
      have okh : ∀ r ∈ here, OkR S.n S.l r := fun r hr => by
        rw [on, ol]
        rw [hhere] at hr
        exact mem_allR.mp (List.mem_of_mem_take hr)
      have hasc : here.Pairwise fun r s => rR r < rR s := by
        rw [hhere]
        exact asc.sublist (List.take_sublist _ _)
      have lhere : here.length ≤ 5 := by
        rw [hhere, List.length_take]
        omega
      generalize ww.take 5 = hw at esh dsh
      have lhw : hw.length = here.length := by rw [← dsh.len, List.length_map]
      -- inner = {}
      refine fun nd ond hnd dm => ?_
      have s9 : L2.Same H8 (upd H8 nd ond) := same_upd hnd
      have n8 : nd ≠ sh := (ne_of_none esh hnd).symm
      refine ⟨_, rfl, sh, rfl, ⟨_, .of (s9 _ _ esh)⟩, for_list (xs := hw) (fun j σ H' => ∃ x2 x9 x10 x11 x12 x13 kvs, σ = [some (.ref a), some (.ref d), x2, some (.ref pt), some (.ref wl), some (.ref mk), some (.ref y), some (.ref sh), some (.ref nd), x9, x10, x11, x12, x13] ∧ L2.Same H8 H' ∧ DMap P w H' nd kvs ∧ kvs.length ≤ 5 * j ∧ ∀ r ∈ here.take j, ∀ s ∈ here, valV kvs (eP r s) = some (.bl (inB S r s)))
        ⟨_, _, _, _, _, _, [], rfl, s9, dm, Nat.zero_le _, by simp⟩ (fun j σ H' _ ⟨_, _, _, _, _, _, _, _, s, _⟩ => .of (s _ _ esh)) ?_ ?_⟩
      · rintro j v σ H9 hv ⟨x2, x9, x10, x11, x12, x13, kvs, rfl, s10, dm10, lk, vals⟩
        obtain ⟨r, hr, dr⟩ := dvsR dsh hv
        have hj := (List.getElem?_eq_some_iff.mp hr).1
        refine ⟨_, rfl, sh, rfl, ⟨_, .of (s10 _ _ esh)⟩, for_list (xs := hw) (fun m σ H' => ∃ x2 x10 x11 x12 x13 kvs, σ = [some (.ref a), some (.ref d), x2, some (.ref pt), some (.ref wl), some (.ref mk), some (.ref y), some (.ref sh), some (.ref nd), some v, x10, x11, x12, x13] ∧ L2.Same H8 H' ∧ DMap P w H' nd kvs ∧ kvs.length ≤ 5 * j + m ∧ (∀ r ∈ here.take j, ∀ s ∈ here, valV kvs (eP r s) = some (.bl (inB S r s))) ∧ ∀ s ∈ here.take m, valV kvs (eP r s) = some (.bl (inB S r s)))
          ⟨_, _, _, _, _, kvs, rfl, s10, dm10, lk, vals, by simp⟩ (fun m σ H' _ ⟨_, _, _, _, _, _, _, s, _⟩ => .of (s _ _ esh)) ?_ ?_⟩
        · rintro m u σ H10 hu ⟨x2, x10, x11, x12, x13, kvs, rfl, s11, dm11, lk, vals, row⟩
          obtain ⟨s', hs, ds⟩ := dvsR dsh hu
          have hm := (List.getElem?_eq_some_iff.mp hs).1
          refine ⟨_, rfl, _, rfl, _, rfl, y, S, r, s', v, u, rfl, stg.same (s8.trans s11), ok, tfew, dr.mono (.of_same s11), ds.mono (.of_same s11), okh r (List.mem_of_getElem? hr), okh s' (List.mem_of_getElem? hs), fun H11 z s12 hz => ?_⟩
          have ez : decide (z = V.non) = inB S r s' := by
            rcases hz with ⟨rfl, hi⟩ | ⟨⟨p, rfl⟩, hi⟩
            · rw [inB_iff.mpr hi]
              rfl
            · cases hb : inB S r s' with
              | true => exact absurd (inB_iff.mp hb) hi
              | false => rfl
          dsimp only
          rw [ez]
          have s13 := s11.trans s12
          refine ⟨_, rfl, _, rfl, _, rfl, (by show 2 ≤ sizeLine; decide), fun e he => ?_⟩
          have s14 := sNew (o := .tup [v, u]) s13 he
          have dm14 := (dm11.same s12).same (same_upd (o := .tup [v, u]) he)
          refine ⟨nd, kvs, _, rfl, dm14, .tup upd_same (.cons (dr.mono (.of_same s14)) (.cons (ds.mono (.of_same s14)) .nil)), dep_eP r s', by omega, fun o' dm' tk => ⟨_, _, _, _, _, putK kvs (eP r s') (.bl (inB S r s')), rfl, sUp s14 hnd, dm', ?_, fun r2 hr2 s2' hs2 => ?_, fun s2' hs2 => ?_⟩⟩
          · have := length_putK kvs (eP r s') (.bl (inB S r s'))
            omega
          · rw [valV_put]
            split
            · next h =>
              obtain ⟨h1, h2⟩ := eP_inj h
              rw [h1, h2]
            · exact vals r2 hr2 s2' hs2
          · rw [valV_put]
            split
            · next h =>
              obtain ⟨h1, h2⟩ := eP_inj h
              rw [h2]
            · next h =>
              rw [take_snoc hs] at hs2
              rcases List.mem_append.mp hs2 with q2 | q2
              · exact row s2' q2
              · exact absurd (by rw [List.mem_singleton.mp q2]) h
        · rintro σ H10 ⟨x2, x10, x11, x12, x13, kvs, rfl, s11, dm11, lk, vals, row⟩
          rw [lhw, List.take_length] at row
          refine ⟨_, _, _, _, _, _, kvs, rfl, s11, dm11, by omega, fun r2 hr2 => ?_⟩
          rw [take_snoc hr] at hr2
          rcases List.mem_append.mp hr2 with q2 | q2
          · exact vals r2 q2
          · rw [List.mem_singleton.mp q2]
            exact row
      · rintro σ H9 ⟨x2, x9, x10, x11, x12, x13, kvs, rfl, s10, dm10, _, vals⟩
        rw [lhw, List.take_length] at vals
        have get : ∀ {H' : Hp} {r s : Role} {e : Addr} {v u : V}, L2.Same H9 H' → r ∈ here → s ∈ here → H' e = some (.tup [v, u]) → DV H' (eR r) v → DV H' (eR s) u → DMap P w H' nd kvs ∧ DV H' (eP r s) (.ref e) ∧ valV kvs (eP r s) = some (.bl (inB S r s)) := fun s' hr hs he dv du => ⟨dm10.same s', .tup he (.cons dv (.cons du .nil)), vals _ hr _ hs⟩
        have s89 := s8.trans s10
        refine ⟨_, rfl, sh, rfl, ⟨_, .of (s10 _ _ esh)⟩, for_list (xs := hw) (fun j σ H' => ∃ x2 x9 x10 x11 x12 x13, σ = [some (.ref a), some (.ref d), x2, some (.ref pt), some (.ref wl), some (.ref mk), some (.ref y), some (.ref sh), some (.ref nd), x9, x10, x11, x12, x13] ∧ L2.Same H9 H')
          ⟨_, _, _, _, _, _, rfl, Same.refl _⟩ (fun j σ H' _ ⟨_, _, _, _, _, _, _, s⟩ => .of (s _ _ (s10 _ _ esh))) ?_ ?_⟩
        · rintro j v σ H10 hv ⟨x2, x9, x10, x11, x12, x13, rfl, sa⟩
          obtain ⟨r, hr, dr0⟩ := dvsR dsh hv
          have mr := List.mem_of_getElem? hr
          have dr := dr0.mono (.of_same s10)
          have okr := okh r mr
          -- inner[one, one]
          refine ⟨_, rfl, _, rfl, _, rfl, (by show 2 ≤ sizeLine; decide), fun e he => ?_⟩
          have sb := sNew (o := .tup [v, v]) sa he
          obtain ⟨g1, g2, g3⟩ := get sb mr mr upd_same (dr.mono (.of_same sb)) (dr.mono (.of_same sb))
          refine ⟨nd, kvs, _, _, rfl, g1, g2, dep_eP r r, g3, _, rfl, ifF (by rw [inB_iff.mpr (Inner.refl S (told S) r)]; rfl) ?_⟩
          generalize upd H10 e (.tup [v, v]) = H11 at sb g1 g2 ⊢
          refine ⟨_, rfl, sh, rfl, ⟨_, .of (sb _ _ (s10 _ _ esh))⟩, for_list (xs := hw) (fun m σ H' => ∃ x2 x10 x11 x12 x13, σ = [some (.ref a), some (.ref d), x2, some (.ref pt), some (.ref wl), some (.ref mk), some (.ref y), some (.ref sh), some (.ref nd), some v, x10, x11, x12, x13] ∧ L2.Same H9 H')
            ⟨_, _, _, _, _, rfl, sb⟩ (fun j σ H' _ ⟨_, _, _, _, _, _, s⟩ => .of (s _ _ (s10 _ _ esh))) ?_ ?_⟩
          · rintro m u σ H12 hu ⟨x2, x10, x11, x12, x13, rfl, sc⟩
            obtain ⟨t, ht, dt0⟩ := dvsR dsh hu
            have mt := List.mem_of_getElem? ht
            have dt := dt0.mono (.of_same s10)
            have okt := okh t mt
            -- all third ones
            refine ⟨_, rfl, sh, rfl, ⟨_, .of (sc _ _ (s10 _ _ esh))⟩, for_list (xs := hw) (fun p σ H' => ∃ x2 x11 x12 x13, σ = [some (.ref a), some (.ref d), x2, some (.ref pt), some (.ref wl), some (.ref mk), some (.ref y), some (.ref sh), some (.ref nd), some v, some u, x11, x12, x13] ∧ L2.Same H9 H')
              ⟨_, _, _, _, rfl, sc⟩ (fun j σ H' _ ⟨_, _, _, _, _, s⟩ => .of (s _ _ (s10 _ _ esh))) ?_ ?_⟩
            · rintro p z σ H13 hz ⟨x2, x11, x12, x13, rfl, sd⟩
              obtain ⟨b, hb, db0⟩ := dvsR dsh hz
              have mb := List.mem_of_getElem? hb
              have db := db0.mono (.of_same s10)
              refine ⟨_, rfl, _, rfl, _, rfl, (by show 2 ≤ sizeLine; decide), fun e1 he1 => ?_⟩
              have se1 := sNew (o := .tup [v, u]) sd he1
              obtain ⟨g1, g2, g3⟩ := get se1 mr mt upd_same (dr.mono (.of_same se1)) (dt.mono (.of_same se1))
              refine ⟨nd, kvs, _, _, rfl, g1, g2, dep_eP r t, g3, _, rfl, ?_⟩
              refine ite2 (fun i1 => ?_) (fun _ => ⟨_, _, _, _, rfl, se1⟩)
              refine ⟨_, rfl, _, rfl, _, rfl, (by show 2 ≤ sizeLine; decide), fun e2 he2 => ?_⟩
              have se2 := sNew (o := .tup [u, z]) se1 he2
              obtain ⟨g4, g5, g6⟩ := get se2 mt mb upd_same (dt.mono (.of_same se2)) (db.mono (.of_same se2))
              refine ⟨nd, kvs, _, _, rfl, g4, g5, dep_eP t b, g6, _, rfl, ?_⟩
              refine ite2 (fun i2 => ?_) (fun _ => ⟨_, _, _, _, rfl, se2⟩)
              refine ⟨_, rfl, _, rfl, _, rfl, (by show 2 ≤ sizeLine; decide), fun e3 he3 => ?_⟩
              have se3 := sNew (o := .tup [v, z]) se2 he3
              obtain ⟨g7, g8, g9⟩ := get se3 mr mb upd_same (dr.mono (.of_same se3)) (db.mono (.of_same se3))
              exact ⟨nd, kvs, _, _, rfl, g7, g8, dep_eP r b, g9, _, rfl, ifF (by rw [inB_iff.mpr ((inB_iff.mp i1).trans (inB_iff.mp i2))]; rfl) ⟨_, _, _, _, rfl, se3⟩⟩
            · rintro σ H13 ⟨x2, x11, x12, x13, rfl, sd⟩
              -- what nobody may hold lies within all
              have last : ∀ (x2 x11 x12 x13 : Option V) (H14 : Hp), L2.Same H9 H14 → tIfS (tAnd (tB (tCall (sp_holds CP CS) [] C8.E0 (tCons (tVar 6) (tCons (tTup (tCons (tC (V.str "empty")) (tCons (tVar 9) tNil))) tNil)))) (tNot (tB (tOp (rGetN P w) (tVar 8) (tTup (tCons (tVar 9) (tCons (tVar 10) tNil)))))))
                  (tRet (tC (V.bl false))) tNext { nx := fun σ H' => ∃ x2 x10 x11 x12 x13, σ = [some (.ref a), some (.ref d), x2, some (.ref pt), some (.ref wl), some (.ref mk), some (.ref y), some (.ref sh), some (.ref nd), some v, x10, x11, x12, x13] ∧ L2.Same H9 H', rt := Q, bk := fun _ _ => False, ct := fun _ _ => False }
                  [some (.ref a), some (.ref d), x2, some (.ref pt), some (.ref wl), some (.ref mk), some (.ref y), some (.ref sh), some (.ref nd), some v, some u, x11, x12, x13] H14 := fun x2 x11 x12 x13 H14 se => by
                refine ⟨_, rfl, _, rfl, (by show 2 ≤ sizeLine; decide), fun e he => ?_⟩
                have sf := sNew (o := .tup [.str "empty", v]) se he
                refine ⟨S, y, .emp r, e, rfl, ok, stg.same (s89.trans sf), ⟨v, upd_same, dr.mono (.of_same sf)⟩, okr, fun H15 b sg hb => ⟨_, rfl, ?_⟩⟩
                have sh15 := sf.trans sg
                refine ite2 (fun i1 => ?_) (fun _ => ⟨_, _, _, _, _, rfl, sh15⟩)
                refine ⟨_, rfl, _, rfl, _, rfl, (by show 2 ≤ sizeLine; decide), fun e1 he1 => ?_⟩
                have se1 := sNew (o := .tup [v, u]) sh15 he1
                obtain ⟨g1, g2, g3⟩ := get se1 mr mt upd_same (dr.mono (.of_same se1)) (dt.mono (.of_same se1))
                exact ⟨nd, kvs, _, _, rfl, g1, g2, dep_eP r t, g3, _, rfl, ifF (by rw [inB_iff.mpr (inner_of_empty (hb.mp i1))]; rfl) ⟨_, _, _, _, _, rfl, se1⟩⟩
              -- apart
              refine ⟨_, rfl, _, rfl, _, _, dr.mono (.of_same sd), dt.mono (.of_same sd), dep_eR r, cmp_eR r t, ?_⟩
              rw [ord_eR (okr.sm ok.n8 ok.l8) (okt.sm ok.n8 ok.l8), show (if false = true then decide (rR r ≤ rR t) else decide (rR r < rR t)) = decide (rR r < rR t) from rfl]
              refine ⟨_, rfl, ?_⟩
              refine ite2 (fun lt => ?_) (fun _ => last _ _ _ _ _ sd)
              have ne : r ≠ t := fun z => by
                rw [z] at lt
                exact absurd (of_decide_eq_true lt) (Nat.lt_irrefl _)
              refine ⟨_, rfl, _, rfl, _, rfl, (by show 2 ≤ sizeLine; decide), fun e1 he1 => ?_⟩
              have se1 := sNew (o := .tup [v, u]) sd he1
              obtain ⟨g1, g2, g3⟩ := get se1 mr mt upd_same (dr.mono (.of_same se1)) (dt.mono (.of_same se1))
              refine ⟨nd, kvs, _, _, rfl, g1, g2, dep_eP r t, g3, _, rfl, ?_⟩
              refine ite2 (fun i1 => ?_) (fun _ => last _ _ _ _ _ se1)
              refine ⟨_, rfl, _, rfl, _, rfl, (by show 3 ≤ sizeLine; decide), fun e2 he2 => ?_⟩
              have se2 := sNew (o := .tup [.str "apart", v, u]) se1 he2
              refine ⟨S, y, .apt r t, e2, rfl, ok, stg.same (s89.trans se2), ⟨v, u, upd_same, dr.mono (.of_same se2), dt.mono (.of_same se2)⟩, ⟨okr, okt⟩, fun H15 b1 sg hb1 => ⟨_, rfl, ?_⟩⟩
              have sh15 := se2.trans sg
              refine ite2 (fun i2 => ?_) (fun _ => last _ _ _ _ _ sh15)
              refine ⟨_, rfl, _, rfl, (by show 2 ≤ sizeLine; decide), fun e3 he3 => ?_⟩
              have se3 := sNew (o := .tup [.str "empty", v]) sh15 he3
              refine ⟨S, y, .emp r, e3, rfl, ok, stg.same (s89.trans se3), ⟨v, upd_same, dr.mono (.of_same se3)⟩, okr, fun H16 b2 sk hb2 => ⟨_, rfl, ifF ?_ (last _ _ _ _ _ (se3.trans sk))⟩⟩
              rw [hb2.mpr (empty_of_apart hT ne (inB_iff.mp i1) (hb1.mp i2))]
              rfl
          · rintro σ H12 ⟨x2, x10, x11, x12, x13, rfl, sc⟩
            exact ⟨_, _, _, _, _, _, rfl, sc⟩
        · rintro σ H10 ⟨x2, x9, x10, x11, x12, x13, rfl, sa⟩
          -- kept grants
          have s7a := s89.trans sa
          refine ⟨_, rfl, _, _, _, _, rfl, rfl, .of (s7a _ _ ept7), rfl, g, rfl, ⟨_, .of (s7a _ _ eg7)⟩, for_tup (xs := gws) (fun j σ H' => ∃ x2 x9 x10 x11 x12 x13, σ = [some (.ref a), some (.ref d), x2, some (.ref pt), some (.ref wl), some (.ref mk), some (.ref y), some (.ref sh), some (.ref nd), x9, x10, x11, x12, x13] ∧ L2.Same H7 H')
            ⟨_, _, _, _, _, _, rfl, s7a⟩ (fun j σ H' _ ⟨_, _, _, _, _, _, _, s⟩ => .of (s _ _ eg7)) ?_ ?_⟩
          · rintro j v σ H11 hv ⟨x2, x9, x10, x11, x12, x13, rfl, sb⟩
            obtain ⟨⟨r, b⟩, hg, dgr⟩ := dvsG dg7 hv
            obtain ⟨e, dr, db, rfl, ee, d1, d2⟩ := dG (dgr.mono (.of_same sb))
            refine ⟨_, _, rfl, .of ee, rfl, _, _, rfl, _, _, rfl, rfl, ?_⟩
            have hgm : (r, b) ∈ S.gs := by
              rw [gsS]
              exact List.mem_of_getElem? hg
            cases b with
            | own p =>
              obtain ⟨b0, rfl, eb⟩ := dB1 d2
              exact ⟨_, rfl, _, _, _, _, rfl, rfl, .of (eb), rfl, rfl, _, rfl, ifF (by decide +kernel) ⟨_, _, _, _, _, _, rfl, sb⟩⟩
            | bth p p2 =>
              obtain ⟨b0, z1, z2, rfl, eb, _⟩ := dB3 d2
              exact ⟨_, rfl, _, _, _, _, rfl, rfl, .of (eb), rfl, rfl, _, rfl, ifF (by decide +kernel) ⟨_, _, _, _, _, _, rfl, sb⟩⟩
            | rol p =>
              obtain ⟨b0, z1, rfl, eb, dz⟩ := dB2 d2
              refine ⟨_, rfl, _, _, _, _, rfl, rfl, .of (eb), rfl, rfl, _, rfl, ifT (by decide +kernel) ?_⟩
              refine ⟨_, rfl, _, rfl, _, _, _, _, rfl, rfl, .of (sb _ _ emk7), rfl, eR r, kps.map eR, t2, f2s, d1, rfl, .inr (.of (sb _ _ et7)), dt7.mono (.of_same sb), dep_eR r, _, rfl, ?_⟩
              rw [show (if false = true then !decide (eR r ∈ kps.map eR) else decide (eR r ∈ kps.map eR)) = decide (r ∈ kps) from decide_eq_decide.mpr memR]
              refine ite2 (fun hk => ?_) (fun _ => ⟨_, _, _, _, _, _, rfl, sb⟩)
              have okp := ok.gs.1 _ hgm
              refine ⟨_, rfl, _, rfl, _, _, _, _, rfl, rfl, .of (eb), rfl, _, rfl, y, S, p, r, z1, dr, rfl, stg.same sb, ok, tfew, dz, d1, okp.2, okp.1, fun H12 z sc hz => ?_⟩
              have inn : Inner S (told S) p r := inner_of_kept hT hgm (by rw [kpS]; exact of_decide_eq_true hk)
              rcases hz with ⟨rfl, _⟩ | ⟨_, no⟩
              · exact ⟨_, rfl, ifF rfl ⟨_, _, _, _, _, _, rfl, sb.trans sc⟩⟩
              · exact absurd inn no
          · rintro σ H11 ⟨x2, x9, x10, x11, x12, x13, rfl, sb⟩
            exact ⟨_, _, _, _, _, _, _, _, _, _, _, _, rfl, dk7.same sb⟩
    · rintro σ H ⟨x2, x3, x4, x5, x6, x7, x8, x9, x10, x11, x12, x13, rfl, dk⟩
      exact q _
end
end G53


namespace G53
open PySem PySem.Spec PyProof.Rows L2
theorem all_mk {l : PySem.W.OpenLaw} {w : World} {K : PySem.W.Frag} {h : Heap} {mg : Str → Option Value} {fa CP CS : Addr} (X : K.In h) (G : h.Ns mainGlobals mg) (hfa : mg "law" = some (.ref fa)) (T : Txt K mg CP CS) :
    ∃ fd : FuncData, (∀ (s : Shared) (v : Value), BindsTo s fd ⟨[v], []⟩ [("_law_script", v)]) ∧ ∀ base : Heap, K.In base → base.Ns mainGlobals mg → FnOk l.prog w K mg base CX0 12 fa fd ["_law_script"] (sp_law K) := by
  obtain ⟨f, fd, F, m⟩ := T.d_law.ex
  have e := hfa.symm.trans m
  cases e
  obtain ⟨oc, od, kV, doc, pm, an, cdv, ct, osl, rfl, lk, hcd⟩ := id F.ex
  exact ⟨_, fun s v => .of_eq rfl, fun base _ _ => ok_law T F⟩
theorem walk {l : PySem.W.OpenLaw} {q : Program} {loose : List Str} {XP : (Str → Option Value) → Heap → Prop} {YP : World → Heap → Prop} {d : DefRec} {K : Params → PySem.W.Frag} (hn : l.most = some 63) (hdf : d.params.defaults = [])
    (hY : ∀ (w : World) (h : Heap), YP w h → (K w.params).In h)
    (F : ∀ (w : World) (mg : Str → Option Value) (fa : Addr) (h : Heap), (K w.params).In h → h.Ns mainGlobals mg → mg d.name = some (.ref fa) →
      ∃ fd : FuncData, (∀ (s : Shared) (u : Value), BindsTo s fd ⟨[u], []⟩ [("_law_script", u)]) ∧ ∀ base : Heap, (K w.params).In base → base.Ns mainGlobals mg → FnOk l.prog w (K w.params) mg base CX0 12 fa fd ["_law_script"] (sp_law (K w.params))) :
    PySem.W.WalkO q loose XP YP l.row.toRowW d [] (fun f vs => PySem.call f vs) :=
  L2.walk_of (n := 63) (k := 12) (x := "_law_script") (CX := fun _ => CX0) (sp := fun w => sp_law (K w.params)) hn (by decide) hdf ⟨rfl, by decide, by decide⟩ hY F (fun _ _ a ns hl _ hS => ⟨a, ns, rfl, hS, hl, fun _ => rfl⟩) fun _ _ _ _ _ z => z
end G53

open PySem PySem.W PyProof.Rows in
set_option maxRecDepth 100000 in
set_option maxHeartbeats 0 in
theorem PySem.Challenge.cw_grantsgrow_k41_whole_order_of_roles_holds : PySem.Challenge.rw_grantsgrow_k41_whole_order_of_roles.Holds := by
  w_on; o_law; k_head; (case hw => w_witness2)
  k_fill
  refine G53.walk (l := PySem.Challenge.rw_grantsgrow_k41_whole_order_of_roles) rfl rfl (fun w h Y => PySem.W.kIn_of Y) ?F
  case F =>
    intro w mg fa h KX G hmg
    refine' G53.all_mk KX G hmg (G53.Txt.mk
      (G53.dfn_mk KX G ?a_is_integer ?l_is_integer ?c_is_integer ?k_is_integer)
      (G53.dfn_mk KX G ?a_is_role ?l_is_role ?c_is_role ?k_is_role)
      (G53.dfn_mk KX G ?a_is_word ?l_is_word ?c_is_word ?k_is_word)
      (G53.dfn_mk KX G ?a_is_body ?l_is_body ?c_is_body ?k_is_body)
      (G53.dfn_mk KX G ?a_grant_word ?l_grant_word ?c_grant_word ?k_grant_word)
      (G53.dfn_mk KX G ?a_all_roles ?l_all_roles ?c_all_roles ?k_all_roles)
      (G53.dfn_mk KX G ?a_are_roles ?l_are_roles ?c_are_roles ?k_are_roles)
      (G53.dfn_mk KX G ?a_roles_in ?l_roles_in ?c_roles_in ?k_roles_in)
      (G53.dfn_mk KX G ?a_check_policy ?l_check_policy ?c_check_policy ?k_check_policy)
      (G53.dfn_mk KX G ?a_told_roles ?l_told_roles ?c_told_roles ?k_told_roles)
      (G53.dfn_mk KX G ?a_check_plain ?l_check_plain ?c_check_plain ?k_check_plain)
      (G53.dfn_mk KX G ?a_is_by ?l_is_by ?c_is_by ?k_is_by)
      (G53.dfn_mk KX G ?a_is_closed_under ?l_is_closed_under ?c_is_closed_under ?k_is_closed_under)
      (G53.dfn_mk KX G ?a_made_from ?l_made_from ?c_made_from ?k_made_from)
      (G53.dfn_mk KX G ?a_subsets ?l_subsets ?c_subsets ?k_subsets)
      (G53.dfn_mk KX G ?a_wholes ?l_wholes ?c_wholes ?k_wholes)
      (G53.dfn_mk KX G ?a_cases ?l_cases ?c_cases ?k_cases)
      (G53.dfn_mk KX G ?a_state_with ?l_state_with ?c_state_with ?k_state_with)
      (G53.dfn_mk KX G ?a_shown ?l_shown ?c_shown ?k_shown)
      (G53.dfn_mk KX G ?a_within ?l_within ?c_within ?k_within)
      (G53.dfn_mk KX G ?a_members ?l_members ?c_members ?k_members)
      (G53.dfn_mk KX G ?a_by_body ?l_by_body ?c_by_body ?k_by_body)
      (G53.dfn_mk KX G ?a_next_round ?l_next_round ?c_next_round ?k_next_round)
      (G53.dfn_mk KX G ?a_spread ?l_spread ?c_spread ?k_spread)
      (G53.dfn_mk KX G ?a_greatest_bits ?l_greatest_bits ?c_greatest_bits ?k_greatest_bits)
      (G53.dfn_mk KX G ?a_is_so ?l_is_so ?c_is_so ?k_is_so)
      (G53.dfn_mk KX G ?a_is_barred ?l_is_barred ?c_is_barred ?k_is_barred)
      (G53.dfn_mk KX G ?a_holds ?l_holds ?c_holds ?k_holds)
      (G53.dfn_mk KX G ?a_law_deck ?l_law_deck ?c_law_deck ?k_law_deck)
      (G53.dfn_mk KX G ?a_law_take ?l_law_take ?c_law_take ?k_law_take)
      (G53.dfn_mk KX G ?a_law_one ?l_law_one ?c_law_one ?k_law_one)
      (G53.dfn_mk KX G ?a_law_all_roles ?l_law_all_roles ?c_law_all_roles ?k_law_all_roles)
      (G53.dfn_mk KX G ?a_law_role ?l_law_role ?c_law_role ?k_law_role)
      (G53.dfn_mk KX G ?a_law_body ?l_law_body ?c_law_body ?k_law_body)
      (G53.dfn_mk KX G ?a_law_grants ?l_law_grants ?c_law_grants ?k_law_grants)
      (G53.dfn_mk KX G ?a_law_some ?l_law_some ?c_law_some ?k_law_some)
      (G53.dfn_mk KX G ?a_law_plain ?l_law_plain ?c_law_plain ?k_law_plain)
      (G53.dfn_mk KX G ?a_law ?l_law ?c_law ?k_law)
      (G53.cld_mk KX G ?a_P ?i_P ?n_P ?l_P ?c_P ?k_P ?mk_P ?kc_P ?pg_P ?hd_P ?po_P ?sa_P ?np_P)
      (G53.clt_mk KX G ?a_S ?i_S ?n_S ?l_S ?d_S ?c_S ?k_S ?mk_S ?kc_S ?pg_S ?hd_S ?po_S ?sa_S ?np_S)
      (G53.prd_mk ?a_P_owners ?s_P_owners ?t_P_owners ?r_P_owners ?l_P_owners ?c_P_owners ?k_P_owners)
      (G53.prd_mk ?a_P_labels ?s_P_labels ?t_P_labels ?r_P_labels ?l_P_labels ?c_P_labels ?k_P_labels)
      (G53.prd_mk ?a_P_grants ?s_P_grants ?t_P_grants ?r_P_grants ?l_P_grants ?c_P_grants ?k_P_grants)
      (G53.prd_mk ?a_S_policy ?s_S_policy ?t_S_policy ?r_S_policy ?l_S_policy ?c_S_policy ?k_S_policy)
      (G53.prd_mk ?a_S_fixed ?s_S_fixed ?t_S_fixed ?r_S_fixed ?l_S_fixed ?c_S_fixed ?k_S_fixed)
      (G53.prd_mk ?a_S_kept ?s_S_kept ?t_S_kept ?r_S_kept ?l_S_kept ?c_S_kept ?k_S_kept)
      (G53.lnd_mk ?a_len ?n_len ?l_len ?c_len ?k_len)
      (G53.blt_mk KX G ?b_isinstance)
      (G53.blt_mk KX G ?b_int)
      (G53.blt_mk KX G ?b_bool)
      (G53.blt_mk KX G ?b_tuple)
      (G53.blt_mk KX G ?b_str)
      (G53.blt_mk KX G ?b_len)
      (G53.blt_mk KX G ?b_all)
      (G53.blt_mk KX G ?b_any)
      (G53.blt_mk KX G ?b_range)
      (G53.blt_mk KX G ?b_zip)
      (G53.blt_mk KX G ?b_sorted)
      (G53.blt_mk KX G ?b_set)
      (G53.blt_mk KX G ?b_enumerate)
      (G53.blt_mk KX G ?b_max)
      (G53.blt_mk KX G ?b_min)
      (G53.blt_mk KX G ?b_dict)
      (G53.blt_mk KX G ?b_list)
      (G53.blt_mk KX G ?b_abs)
      (G53.int_mk KX G ?i_MAX_GRANTS)
      (G53.int_mk KX G ?i_MAX_LABELS)
      (G53.int_mk KX G ?i_MAX_OWNERS)
      (G53.int_mk KX G ?i_MAX_PLAIN)
      (G53.int_mk KX G ?i_MAX_SETTLED)
      (G53.keep_mk KX G ?e_keep ?l_keep))
    (case a_is_integer => k_is)
    (case l_is_integer => k_is)
    (case c_is_integer => k_is)
    (case k_is_integer => k_is)
    (case a_is_role => k_is)
    (case l_is_role => k_is)
    (case c_is_role => k_is)
    (case k_is_role => k_is)
    (case a_is_word => k_is)
    (case l_is_word => k_is)
    (case c_is_word => k_is)
    (case k_is_word => k_is)
    (case a_is_body => k_is)
    (case l_is_body => k_is)
    (case c_is_body => k_is)
    (case k_is_body => k_is)
    (case a_grant_word => k_is)
    (case l_grant_word => k_is)
    (case c_grant_word => k_is)
    (case k_grant_word => k_is)
    (case a_all_roles => k_is)
    (case l_all_roles => k_is)
    (case c_all_roles => k_is)
    (case k_all_roles => k_is)
    (case a_are_roles => k_is)
    (case l_are_roles => k_is)
    (case c_are_roles => k_is)
    (case k_are_roles => k_is)
    (case a_roles_in => k_is)
    (case l_roles_in => k_is)
    (case c_roles_in => k_is)
    (case k_roles_in => k_is)
    (case a_check_policy => k_is)
    (case l_check_policy => k_is)
    (case c_check_policy => k_is)
    (case k_check_policy => k_is)
    (case a_told_roles => k_is)
    (case l_told_roles => k_is)
    (case c_told_roles => k_is)
    (case k_told_roles => k_is)
    (case a_check_plain => k_is)
    (case l_check_plain => k_is)
    (case c_check_plain => k_is)
    (case k_check_plain => k_is)
    (case a_is_by => k_is)
    (case l_is_by => k_is)
    (case c_is_by => k_is)
    (case k_is_by => k_is)
    (case a_is_closed_under => k_is)
    (case l_is_closed_under => k_is)
    (case c_is_closed_under => k_is)
    (case k_is_closed_under => k_is)
    (case a_made_from => k_is)
    (case l_made_from => k_is)
    (case c_made_from => k_is)
    (case k_made_from => k_is)
    (case a_subsets => k_is)
    (case l_subsets => k_is)
    (case c_subsets => k_is)
    (case k_subsets => k_is)
    (case a_wholes => k_is)
    (case l_wholes => k_is)
    (case c_wholes => k_is)
    (case k_wholes => k_is)
    (case a_cases => k_is)
    (case l_cases => k_is)
    (case c_cases => k_is)
    (case k_cases => k_is)
    (case a_state_with => k_is)
    (case l_state_with => k_is)
    (case c_state_with => k_is)
    (case k_state_with => k_is)
    (case a_shown => k_is)
    (case l_shown => k_is)
    (case c_shown => k_is)
    (case k_shown => k_is)
    (case a_within => k_is)
    (case l_within => k_is)
    (case c_within => k_is)
    (case k_within => k_is)
    (case a_members => k_is)
    (case l_members => k_is)
    (case c_members => k_is)
    (case k_members => k_is)
    (case a_by_body => k_is)
    (case l_by_body => k_is)
    (case c_by_body => k_is)
    (case k_by_body => k_is)
    (case a_next_round => k_is)
    (case l_next_round => k_is)
    (case c_next_round => k_is)
    (case k_next_round => k_is)
    (case a_spread => k_is)
    (case l_spread => k_is)
    (case c_spread => k_is)
    (case k_spread => k_is)
    (case a_greatest_bits => k_is)
    (case l_greatest_bits => k_is)
    (case c_greatest_bits => k_is)
    (case k_greatest_bits => k_is)
    (case a_is_so => k_is)
    (case l_is_so => k_is)
    (case c_is_so => k_is)
    (case k_is_so => k_is)
    (case a_is_barred => k_is)
    (case l_is_barred => k_is)
    (case c_is_barred => k_is)
    (case k_is_barred => k_is)
    (case a_holds => k_is)
    (case l_holds => k_is)
    (case c_holds => k_is)
    (case k_holds => k_is)
    (case a_law_deck => k_is)
    (case l_law_deck => k_is)
    (case c_law_deck => k_is)
    (case k_law_deck => k_is)
    (case a_law_take => k_is)
    (case l_law_take => k_is)
    (case c_law_take => k_is)
    (case k_law_take => k_is)
    (case a_law_one => k_is)
    (case l_law_one => k_is)
    (case c_law_one => k_is)
    (case k_law_one => k_is)
    (case a_law_all_roles => k_is)
    (case l_law_all_roles => k_is)
    (case c_law_all_roles => k_is)
    (case k_law_all_roles => k_is)
    (case a_law_role => k_is)
    (case l_law_role => k_is)
    (case c_law_role => k_is)
    (case k_law_role => k_is)
    (case a_law_body => k_is)
    (case l_law_body => k_is)
    (case c_law_body => k_is)
    (case k_law_body => k_is)
    (case a_law_grants => k_is)
    (case l_law_grants => k_is)
    (case c_law_grants => k_is)
    (case k_law_grants => k_is)
    (case a_law_some => k_is)
    (case l_law_some => k_is)
    (case c_law_some => k_is)
    (case k_law_some => k_is)
    (case a_law_plain => k_is)
    (case l_law_plain => k_is)
    (case c_law_plain => k_is)
    (case k_law_plain => k_is)
    (case a_law => k_is)
    (case l_law => k_is)
    (case c_law => k_is)
    (case k_law => k_is)
    (case a_P => k_is)
    (case i_P => k_is)
    (case n_P => k_is)
    (case l_P => k_is)
    (case c_P => k_is)
    (case k_P => k_is)
    (case mk_P => k_is)
    (case kc_P => k_is)
    (case pg_P => k_is)
    (case hd_P => k_is)
    (case po_P => k_is)
    (case sa_P => k_is)
    (case np_P => k_is)
    (case a_S => k_is)
    (case i_S => k_is)
    (case n_S => k_is)
    (case l_S => k_is)
    (case d_S => k_is)
    (case c_S => k_is)
    (case k_S => k_is)
    (case mk_S => k_is)
    (case kc_S => k_is)
    (case pg_S => k_is)
    (case hd_S => k_is)
    (case po_S => k_is)
    (case sa_S => k_is)
    (case np_S => k_is)
    (case a_P_owners => k_is)
    (case s_P_owners => k_is)
    (case t_P_owners => k_is)
    (case r_P_owners => k_is)
    (case l_P_owners => k_is)
    (case c_P_owners => k_is)
    (case k_P_owners => k_is)
    (case a_P_labels => k_is)
    (case s_P_labels => k_is)
    (case t_P_labels => k_is)
    (case r_P_labels => k_is)
    (case l_P_labels => k_is)
    (case c_P_labels => k_is)
    (case k_P_labels => k_is)
    (case a_P_grants => k_is)
    (case s_P_grants => k_is)
    (case t_P_grants => k_is)
    (case r_P_grants => k_is)
    (case l_P_grants => k_is)
    (case c_P_grants => k_is)
    (case k_P_grants => k_is)
    (case a_S_policy => k_is)
    (case s_S_policy => k_is)
    (case t_S_policy => k_is)
    (case r_S_policy => k_is)
    (case l_S_policy => k_is)
    (case c_S_policy => k_is)
    (case k_S_policy => k_is)
    (case a_S_fixed => k_is)
    (case s_S_fixed => k_is)
    (case t_S_fixed => k_is)
    (case r_S_fixed => k_is)
    (case l_S_fixed => k_is)
    (case c_S_fixed => k_is)
    (case k_S_fixed => k_is)
    (case a_S_kept => k_is)
    (case s_S_kept => k_is)
    (case t_S_kept => k_is)
    (case r_S_kept => k_is)
    (case l_S_kept => k_is)
    (case c_S_kept => k_is)
    (case k_S_kept => k_is)
    (case a_len => k_is)
    (case n_len => k_is)
    (case l_len => k_is)
    (case c_len => k_is)
    (case k_len => k_is)
    (case b_isinstance => k_is)
    (case b_int => k_is)
    (case b_bool => k_is)
    (case b_tuple => k_is)
    (case b_str => k_is)
    (case b_len => k_is)
    (case b_all => k_is)
    (case b_any => k_is)
    (case b_range => k_is)
    (case b_zip => k_is)
    (case b_sorted => k_is)
    (case b_set => k_is)
    (case b_enumerate => k_is)
    (case b_max => k_is)
    (case b_min => k_is)
    (case b_dict => k_is)
    (case b_list => k_is)
    (case b_abs => k_is)
    (case i_MAX_GRANTS => k_is)
    (case i_MAX_LABELS => k_is)
    (case i_MAX_OWNERS => k_is)
    (case i_MAX_PLAIN => k_is)
    (case i_MAX_SETTLED => k_is)
    (case e_keep => k_is)
    (case l_keep => k_is)
