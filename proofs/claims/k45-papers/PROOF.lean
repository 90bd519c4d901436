import PyProof.Rows.All
import Wide.All
import OpenK.AllK
import Wide.FinOn
import HandS.ForMost
import HandS.Star
import HandS.MakeKwOnly
import HandS.IsInst
import HandS.OwnEq
import KE.KTypeName
import HandS.Nested
import KE.KSuper
import HandS.Zip
import HandS.NoneIn
import PySem.Challenge.RW_freedbyhand_k45_papers_of_any_values
set_option Elab.async false
set_option linter.all false
set_option maxRecDepth 100000
set_option maxHeartbeats 4000000
/-! The plain law of k45: drawn values, their told forms, when told forms are alike, and how they are shown. -/
namespace M45
open PySem

/-- tuples for lists, all the way in -/
def told : PyData → PyData
  | .list xs => .tuple (xs.map told)
  | .tuple xs => .tuple (xs.map told)
  | d => d

/-- the ten leaves that are drawn -/
def leaves : List PyData := [.none, .bool true, .bool false, .int 0, .int 1, .int (-5), .str "word", .str "", .str "leaf", .int (10 ^ 40)]

/-- drawn values, n deep at most -/
inductive Dr : Nat → PyData → Prop
  | leaf {n : Nat} {d : PyData} : d ∈ leaves → Dr n d
  | list {n : Nat} {xs : List PyData} : xs.length ≤ 2 → (∀ x ∈ xs, Dr n x) → Dr (n + 1) (.list xs)
  | tuple {n : Nat} {xs : List PyData} : xs.length ≤ 2 → (∀ x ∈ xs, Dr n x) → Dr (n + 1) (.tuple xs)
/-- told ones -/
inductive Tl : Nat → PyData → Prop
  | leaf {n : Nat} {d : PyData} : d ∈ leaves → Tl n d
  | tuple {n : Nat} {xs : List PyData} : xs.length ≤ 2 → (∀ x ∈ xs, Tl n x) → Tl (n + 1) (.tuple xs)

theorem leaf_cases {d : PyData} (h : d ∈ leaves) : d = .none ∨ d = .bool true ∨ d = .bool false ∨ d = .int 0 ∨ d = .int 1 ∨ d = .int (-5) ∨ d = .str "word" ∨ d = .str "" ∨ d = .str "leaf" ∨ d = .int (10 ^ 40) := by
  unfold leaves at h
  simpa only [List.mem_cons, List.not_mem_nil, or_false] using h

theorem told_leaf {d : PyData} (h : d ∈ leaves) : told d = d := by
  rcases leaf_cases h with rfl | rfl | rfl | rfl | rfl | rfl | rfl | rfl | rfl | rfl <;> simp only [told]
theorem told_list (xs : List PyData) : told (.list xs) = .tuple (xs.map told) := by rw [told]
theorem told_tuple (xs : List PyData) : told (.tuple xs) = .tuple (xs.map told) := by rw [told]

theorem Dr.told {n : Nat} {d : PyData} (h : Dr n d) : Tl n (told d) := by
  induction h with
  | leaf h => rw [told_leaf h]; exact .leaf h
  | list hl hx ih =>
    rw [told_list]
    refine .tuple (by rw [List.length_map]; exact hl) fun x hx' => ?_
    obtain ⟨y, hy, rfl⟩ := List.mem_map.mp hx'
    exact ih y hy
  | tuple hl hx ih =>
    rw [told_tuple]
    refine .tuple (by rw [List.length_map]; exact hl) fun x hx' => ?_
    obtain ⟨y, hy, rfl⟩ := List.mem_map.mp hx'
    exact ih y hy
theorem Dr.mono {n m : Nat} {d : PyData} (h : Dr n d) (k : n ≤ m) : Dr m d := by
  induction h generalizing m with
  | leaf h => exact .leaf h
  | list hl hx ih =>
    obtain ⟨m, rfl⟩ : ∃ j, m = j + 1 := ⟨m - 1, by omega⟩
    exact .list hl fun x hx' => ih x hx' (by omega)
  | tuple hl hx ih =>
    obtain ⟨m, rfl⟩ : ∃ j, m = j + 1 := ⟨m - 1, by omega⟩
    exact .tuple hl fun x hx' => ih x hx' (by omega)

/-! ### what a value shows, as a list of signs -/
def sg (d : PyData) : List Nat := d.shown.cps.toList
theorem app_list (x y : Str) : (x ++ y).cps.toList = x.cps.toList ++ y.cps.toList := by
  show (x.cps ++ y.cps).toList = _
  simp
theorem sg_unit : sg (.tuple []) = [40, 41] := by decide +kernel
theorem sg_one (x : PyData) : sg (.tuple [x]) = 40 :: (sg x ++ [44, 41]) := by
  unfold sg
  rw [PyData.shown_tuple]
  simp only [PyData.shownAll_cons, PyData.shownAll_nil, Str.join, List.length_cons, List.length_nil, app_list]
  rfl
theorem sg_two (x y : PyData) : sg (.tuple [x, y]) = 40 :: (sg x ++ 44 :: 32 :: (sg y ++ [41])) := by
  unfold sg
  rw [PyData.shown_tuple]
  simp only [PyData.shownAll_cons, PyData.shownAll_nil, Str.join, List.length_cons, List.length_nil, app_list]
  have e1 : (("(" : Str)).cps.toList = [40] := by decide +kernel
  have e2 : ((", " : Str)).cps.toList = [44, 32] := by decide +kernel
  have e3 : ((if (0 + 1 + 1 == 1) = true then ",)" else ")" : String) : Str).cps.toList = [41] := by decide +kernel
  rw [e1, e2, e3]
  simp

/-- what may stand behind a value: nothing, a comma, a bracket -/
def Stop : List Nat → Prop
  | [] => True
  | c :: _ => c = 44 ∨ c = 41
theorem stop0 : Stop [] := trivial
theorem stop44 {r : List Nat} : Stop (44 :: r) := Or.inl rfl
theorem stop41 {r : List Nat} : Stop (41 :: r) := Or.inr rfl
def free (l : List Nat) : Bool := l.all fun c => c != 44 && c != 41
theorem free_cut : ∀ {a b r s : List Nat}, free a = true → free b = true → Stop r → Stop s → a ++ r = b ++ s → a = b ∧ r = s
  | [], [], _, _, _, _, _, _, h => ⟨rfl, h⟩
  | [], c :: b, r, s, _, hb, hr, _, h => by
    simp only [List.nil_append, List.cons_append] at h
    subst h
    have h1 : c = 44 ∨ c = 41 := hr
    have h2 : (c != 44 && c != 41) = true := by
      have := hb
      unfold free at this
      rw [List.all_cons, Bool.and_eq_true] at this
      exact this.1
    rcases h1 with rfl | rfl <;> simp at h2
  | c :: a, [], r, s, ha, _, _, hs, h => by
    simp only [List.nil_append, List.cons_append] at h
    subst h
    have h1 : c = 44 ∨ c = 41 := hs
    have h2 : (c != 44 && c != 41) = true := by
      have := ha
      unfold free at this
      rw [List.all_cons, Bool.and_eq_true] at this
      exact this.1
    rcases h1 with rfl | rfl <;> simp at h2
  | c :: a, d :: b, r, s, ha, hb, hr, hs, h => by
    simp only [List.cons_append, List.cons.injEq] at h
    obtain ⟨rfl, h⟩ := h
    have ha' : free a = true := by
      unfold free at ha ⊢
      rw [List.all_cons, Bool.and_eq_true] at ha
      exact ha.2
    have hb' : free b = true := by
      unfold free at hb ⊢
      rw [List.all_cons, Bool.and_eq_true] at hb
      exact hb.2
    obtain ⟨e1, e2⟩ := free_cut ha' hb' hr hs h
    exact ⟨by rw [e1], e2⟩
/-- the ten leaves' signs -/
def leafSigns : List (List Nat) := leaves.map sg
theorem leaf_free {d : PyData} (h : d ∈ leaves) : free (sg d) = true ∧ (sg d).head? ≠ some 40 ∧ sg d ≠ [] := by
  rcases leaf_cases h with rfl | rfl | rfl | rfl | rfl | rfl | rfl | rfl | rfl | rfl <;> decide +kernel
def okHead : List Nat → Bool
  | c :: _ => c != 41 && c != 44 && c != 32
  | [] => false
theorem leaf_head {d : PyData} (h : d ∈ leaves) : okHead (sg d) = true := by
  rcases leaf_cases h with rfl | rfl | rfl | rfl | rfl | rfl | rfl | rfl | rfl | rfl <;> decide +kernel
theorem head_of {l : List Nat} (h : okHead l = true) : ∃ c t, l = c :: t ∧ c ≠ 41 ∧ c ≠ 44 ∧ c ≠ 32 := by
  cases l with
  | nil => cases h
  | cons c t =>
    refine ⟨c, t, rfl, ?_⟩
    simpa [okHead, and_assoc] using h
def leafAt (l : List Nat) : Option PyData := leaves.find? fun d => sg d == l
theorem leaf_at {d : PyData} (h : d ∈ leaves) : leafAt (sg d) = some d := by
  rcases leaf_cases h with rfl | rfl | rfl | rfl | rfl | rfl | rfl | rfl | rfl | rfl <;> kernel_rfl
theorem leaf_inj {d e : PyData} (h : d ∈ leaves) (k : e ∈ leaves) (q : sg d = sg e) : d = e := by
  have h1 := leaf_at h
  rw [q, leaf_at k] at h1
  exact (Option.some.inj h1).symm

theorem two_cases {xs : List PyData} (h : xs.length ≤ 2) : xs = [] ∨ (∃ x, xs = [x]) ∨ ∃ x y, xs = [x, y] := by
  match xs, h with
  | [], _ => exact .inl rfl
  | [x], _ => exact .inr (.inl ⟨x, rfl⟩)
  | [x, y], _ => exact .inr (.inr ⟨x, y, rfl⟩)
  | _ :: _ :: _ :: _, h => simp at h

theorem leaf_no_open {d : PyData} (h : d ∈ leaves) {l r : List Nat} (q : sg d ++ r = 40 :: l) : False := by
  obtain ⟨_, h2, h3⟩ := leaf_free h
  cases e : sg d with
  | nil => exact h3 e
  | cons c t =>
    rw [e, List.cons_append] at q
    injection q with q1 _
    rw [e, q1] at h2
    exact h2 rfl
/-- a told value is told by what it shows, whatever stands behind -/
theorem sg_inj {n : Nat} {d : PyData} (h : Tl n d) : ∀ {m : Nat} {e : PyData} {r s : List Nat}, Tl m e → Stop r → Stop s → sg d ++ r = sg e ++ s → d = e ∧ r = s := by
  induction h with
  | leaf h =>
    intro m e r s k hr hs q
    cases k with
    | leaf k =>
      obtain ⟨q1, q2⟩ := free_cut (leaf_free h).1 (leaf_free k).1 hr hs q
      exact ⟨leaf_inj h k q1, q2⟩
    | tuple kl kx =>
      exfalso
      rcases two_cases kl with rfl | ⟨x, rfl⟩ | ⟨x, y, rfl⟩
      · rw [sg_unit] at q; exact leaf_no_open h q
      · rw [sg_one, List.cons_append] at q; exact leaf_no_open h q
      · rw [sg_two, List.cons_append] at q; exact leaf_no_open h q
  | @tuple n xs hl hx ih =>
    intro m e r s k hr hs q
    cases k with
    | leaf k =>
      exfalso
      rcases two_cases hl with rfl | ⟨x, rfl⟩ | ⟨x, y, rfl⟩
      · rw [sg_unit] at q; exact leaf_no_open k q.symm
      · rw [sg_one, List.cons_append] at q; exact leaf_no_open k q.symm
      · rw [sg_two, List.cons_append] at q; exact leaf_no_open k q.symm
    | @tuple m ys kl kx =>
      -- the first sign of a told value
      have first : ∀ {j : Nat} {z : PyData}, Tl j z → ∃ c t, sg z = c :: t ∧ c ≠ 41 ∧ c ≠ 44 ∧ c ≠ 32 := by
        intro j z hz
        cases hz with
        | leaf hz => exact head_of (leaf_head hz)
        | tuple zl zx =>
          rcases two_cases zl with rfl | ⟨x, rfl⟩ | ⟨x, y, rfl⟩
          · exact ⟨40, _, sg_unit, by decide, by decide, by decide⟩
          · exact ⟨40, _, sg_one _, by decide, by decide, by decide⟩
          · exact ⟨40, _, sg_two _ _, by decide, by decide, by decide⟩
      rcases two_cases hl with rfl | ⟨x, rfl⟩ | ⟨x, y, rfl⟩ <;> rcases two_cases kl with rfl | ⟨x', rfl⟩ | ⟨x', y', rfl⟩
      · rw [sg_unit] at q; simp at q; exact ⟨rfl, q⟩
      · exfalso
        obtain ⟨c, t, e, h1, _, _⟩ := first (kx x' (by simp))
        rw [sg_unit, sg_one, e] at q; simp at q
        exact h1 q.1.symm
      · exfalso
        obtain ⟨c, t, e, h1, _, _⟩ := first (kx x' (by simp))
        rw [sg_unit, sg_two, e] at q; simp at q
        exact h1 q.1.symm
      · exfalso
        obtain ⟨c, t, e, h1, _, _⟩ := first (hx x (by simp))
        rw [sg_unit, sg_one, e] at q; simp at q
        exact h1 q.1
      · rw [sg_one, sg_one] at q
        simp only [List.cons_append, List.append_assoc, List.cons.injEq, true_and, List.nil_append] at q
        obtain ⟨e1, e2⟩ := ih x (by simp) (kx x' (by simp)) stop44 stop44 q
        subst e1
        simp at e2
        exact ⟨rfl, e2⟩
      · exfalso
        rw [sg_one, sg_two] at q
        simp only [List.cons_append, List.append_assoc, List.cons.injEq, true_and, List.nil_append] at q
        obtain ⟨e1, e2⟩ := ih x (by simp) (kx x' (by simp)) stop44 stop44 q
        simp at e2
      · exfalso
        obtain ⟨c, t, e, h1, _, _⟩ := first (hx x (by simp))
        rw [sg_unit, sg_two, e] at q; simp at q
        exact h1 q.1
      · exfalso
        rw [sg_one, sg_two] at q
        simp only [List.cons_append, List.append_assoc, List.cons.injEq, true_and, List.nil_append] at q
        obtain ⟨e1, e2⟩ := ih x (by simp) (kx x' (by simp)) stop44 stop44 q
        simp at e2
      · rw [sg_two, sg_two] at q
        simp only [List.cons_append, List.append_assoc, List.cons.injEq, true_and, List.nil_append] at q
        obtain ⟨e1, e2⟩ := ih x (by simp) (kx x' (by simp)) stop44 stop44 q
        subst e1
        simp only [List.cons.injEq, true_and] at e2
        obtain ⟨e3, e4⟩ := ih y (by simp) (kx y' (by simp)) stop41 stop41 e2
        subst e3
        simp only [List.cons.injEq, true_and] at e4
        exact ⟨rfl, e4⟩
theorem shown_inj {n m : Nat} {d e : PyData} (h : Tl n d) (k : Tl m e) (q : d.shown = e.shown) : d = e := by
  have q' : sg d ++ [] = sg e ++ [] := by
    unfold sg
    rw [q]
  exact (sg_inj h k stop0 stop0 q').1

/-! ### alike, as the program asks it -/
def isB : PyData → Bool
  | .bool _ => true
  | _ => false
mutual
def alike : PyData → PyData → Bool
  | .tuple xs, .tuple ys => xs.length == ys.length && alikeAll xs ys
  | d, e => if isB d != isB e then false else PyData.eqv d e
def alikeAll : List PyData → List PyData → Bool
  | x :: xs, y :: ys => alike x y && alikeAll xs ys
  | _, _ => true
end
/-- flat data and tuples of such -/
inductive Fl : PyData → Prop
  | none : Fl .none
  | bool (b : Bool) : Fl (.bool b)
  | int (i : Int) : Fl (.int i)
  | str (x : Str) : Fl (.str x)
  | tuple {xs : List PyData} : (∀ x ∈ xs, Fl x) → Fl (.tuple xs)
theorem Tl.fl {n : Nat} {d : PyData} (h : Tl n d) : Fl d := by
  induction h with
  | leaf h => rcases leaf_cases h with rfl | rfl | rfl | rfl | rfl | rfl | rfl | rfl | rfl | rfl <;> constructor
  | tuple _ _ ih => exact .tuple ih
theorem alike_tuple (xs ys : List PyData) : alike (.tuple xs) (.tuple ys) = (xs.length == ys.length && alikeAll xs ys) := by rw [alike]
theorem alikeAll_cons (x y : PyData) (xs ys : List PyData) : alikeAll (x :: xs) (y :: ys) = (alike x y && alikeAll xs ys) := by rw [alikeAll]
theorem alike_flat {d e : PyData} (h : (∃ xs, d = .tuple xs) → (∃ ys, e = .tuple ys) → False) : alike d e = (if isB d != isB e then false else PyData.eqv d e) := by
  cases d with
  | tuple xs =>
    cases e with
    | tuple ys => exact (h ⟨xs, rfl⟩ ⟨ys, rfl⟩).elim
    | _ => rw [alike]; rintro a b hh kk; cases kk
  | _ => rw [alike]; intro a b hh; cases hh
theorem alike_iff {d : PyData} (h : Fl d) : ∀ {e : PyData}, Fl e → (alike d e = true ↔ d = e) := by
  induction h with
  | none =>
    intro e k
    cases k <;> rw [alike_flat (fun ⟨_, q⟩ => nomatch q)] <;> simp [isB, PyData.eqv]
  | bool b =>
    intro e k
    cases k <;> rw [alike_flat (fun ⟨_, q⟩ => nomatch q)] <;> simp [isB, PyData.eqv]
  | int i =>
    intro e k
    cases k <;> rw [alike_flat (fun ⟨_, q⟩ => nomatch q)] <;> simp [isB, PyData.eqv]
  | str x =>
    intro e k
    cases k <;> rw [alike_flat (fun ⟨_, q⟩ => nomatch q)] <;> simp [isB, PyData.eqv]
  | @tuple xs hx ih =>
    intro e k
    cases k with
    | @tuple ys ky =>
      rw [alike_tuple]
      have all : ∀ (xs ys : List PyData), (∀ x ∈ xs, ∀ {e : PyData}, Fl e → (alike x e = true ↔ x = e)) → (∀ y ∈ ys, Fl y) → ((xs.length == ys.length && alikeAll xs ys) = true ↔ xs = ys) := by
        intro xs
        induction xs with
        | nil =>
          intro ys _ _
          cases ys <;> simp [alikeAll]
        | cons x xs ihx =>
          intro ys h1 h2
          cases ys with
          | nil => simp
          | cons y ys =>
            have q1 := h1 x List.mem_cons_self (h2 y List.mem_cons_self)
            have q2 := ihx ys (fun z hz => h1 z (List.mem_cons_of_mem _ hz)) fun z hz => h2 z (List.mem_cons_of_mem _ hz)
            rw [alikeAll_cons]
            simp only [List.length_cons, Bool.and_eq_true, beq_iff_eq, Nat.add_right_cancel_iff] at q2 ⊢
            rw [List.cons.injEq, ← q1, ← q2]
            constructor
            · rintro ⟨a, b, c⟩; exact ⟨b, a, c⟩
            · rintro ⟨a, b, c⟩; exact ⟨b, a, c⟩
      rw [all xs ys (fun x hx' => ih x hx') ky]
      simp
    | _ => rw [alike_flat (fun _ ⟨_, q⟩ => nomatch q)] <;> simp [isB, PyData.eqv]
theorem alike_refl {d : PyData} (h : Fl d) : alike d d = true := (alike_iff h h).mpr rfl
/-- the heart: two told values are alike just if they are shown alike -/
theorem alike_shown {n m : Nat} {d e : PyData} (h : Tl n d) (k : Tl m e) : alike d e = decide (d.shown = e.shown) := by
  have q := alike_iff h.fl k.fl
  by_cases z : d = e
  · subst z
    rw [q.mpr rfl, decide_eq_true rfl]
  · have : alike d e = false := by
      cases hh : alike d e with
      | true => exact absurd (q.mp hh) z
      | false => rfl
    rw [this, decide_eq_false fun w => z (shown_inj h k w)]
end M45

/-! x.__class__.__name__ of an instance of an own class. -/
namespace PySem.W
open PySem PySem.Calls PyProof.Rows Builtin Builtin.ObjectAttr Builtin.Getset_descriptor
section
variable {prog : Program} {w : World} {A : Around} {E : Value → Shared → Prop} {s : Shared} {K : Frag} {R : Result → Shared → Prop} {C : Addr}
theorem ocn_dga (d tp : Value) (C : Addr) : descrGetArgs ⟨[d, .ref C, tp], []⟩ = pure (d, some (.ref C), given tp) := by kernel_rfl
theorem ocn_find (K : Frag) (C : Addr) : findCls K (.ref C) (.type "type") "__name__" = some (.get (.builtin "getset_descriptor.__get__") (.builtin "type.__name__") (.ref C) (.type "type")) := by kernel_rfl
/-- the class object at C, of the written part, and its name -/
structure NameIn (K : Frag) (C : Addr) (n : Str) : Prop where
  ex : ∃ (dd : Option Addr) (cd : ClassData) (sl : Array (Option Value)) (t : Tok), K.lookup C = some ⟨.type "type", dd, .cls cd, sl⟩ ∧ sl[2]? = some (some (.str n t))
theorem NameIn.type {n : Str} (N : NameIn K C n) : typeIn K (.ref C) = some (.type "type") := by
  obtain ⟨dd, cd, sl, t, h, _⟩ := N.ex
  show (K.lookup C).map (·.cls) = _
  rw [h]
  rfl
theorem ocn_get {tp : Value} {n : Str} (X : K.In s.heap) (N : NameIn K C n) (h : ∀ t, R (.ok (.ret (.str n t))) s) :
    codeAny (model prog w) A (.call (.builtin "getset_descriptor.__get__") ⟨[.builtin "type.__name__", .ref C, tp], []⟩) R s := by
  have L0 : Looks (model prog w) s.heap (typeOf (.ref C)) (.type "type") := looks_typeIn X N.type
  have L1 : Looks (model prog w) s.heap (isSubtype (.type "type") (.type "type")) true := Looks.of_pure (by rw [isSubtype_type]; kernel_rfl)
  obtain ⟨dd, cd, sl, t, hC, hsl⟩ := N.ex
  have hO := X _ _ hC
  obtain ⟨hh, g, dr, tk, os⟩ := s
  refine codeAny_call_builtin KF.slot_gs.plain KF.entry_gs (KF.slot_gs.check _ _ _ _ _ _ _ _ ktyn_type (KF.args_gs _ _ _) ?_)
  unfold Builtin.«getset_descriptor.__get__» descrGet
  rw [ocn_dga]
  refine wpAny_bind (wpAny_pure ?_)
  unfold descrGetter descrCheckInstance descrNameAndClass isInstance
  simp only [ktyn_owner]
  repeat lk
  refine ⟨Code.quiet_builtin _ (by decide +kernel), codeAny_builtin ktyn_entry ?_⟩
  unfold Builtin.«type.__name__»
  dsimp only
  unfold keptObject slotAt
  refine wpAny_bind (wpAny_bind (wpAny_loadPart_at hO ?_))
  refine wpAny_pure ?_
  rw [hsl]
  dsimp only [Option.join]
  exact wpAny_pure (h t)
theorem ocn_attr {h₀ : Heap} {L : Addr} {m : Str → Option Value} {expr : Bool} {n : Str} {Q : Value → Shared → Prop} (F : Fr h₀ L s.heap m) (X₀ : K.In h₀) (N : NameIn K C n) (ho : nsIn K cStatics "thirdparty.any" = some none)
    (h : ∀ tk u, Q (.str n tk) { s with toks := u }) : wpAny (model prog w) A (getAttr (.ref C) "__name__" expr) Q E s := by
  have X := X₀.keeps F.keep
  have L0 : Looks (model prog w) s.heap (typeOf (.ref C)) (.type "type") := looks_typeIn X N.type
  have LO : Looks (model prog w) s.heap (opaqueClassAbove (.ref C)) none := looks_opaque X ho
  have hg : findIn K (.type "type") "__getattribute__" = some (some (.builtin "type.__getattribute__")) := type_tga
  refine cls_open X LO L0 hg (looks_hook X (r := none) (by rfl)) (by show subIn K _ _ = _; rfl) (ocn_find K C) ?_
  show wpAny _ _ (do ret (← holding [Value.builtin "type.__name__"] (call (.builtin "getset_descriptor.__get__") [.builtin "type.__name__", .ref C, .type "type"]))) _ _ _
  refine wpAny_bind (wpAny_holding (wpAny_call (ocn_get (s := { s with toks := s.toks + 1 }) X N fun t => ?_)))
  exact wpAny_pure (handed_on rfl (h _ _))
end
end PySem.W

namespace L2
open PySem PySem.Spec PyProof.Rows
/-- what the text must have of a class, for x.__class__.__name__ -/
structure ClsN (K : PySem.W.Frag) (C : Addr) (n : Str) : Prop where
  nm : PySem.W.NameIn K C n
  op : PySem.W.nsIn K cStatics "thirdparty.any" = some none
  ha : PySem.W.findIn K (.ref C) "__class__" = some (some (.builtin "object.__class__"))
  hn : PySem.W.specialIn K (.builtin "object.__class__") "__get__" = some (some (.builtin "getset_descriptor.__get__"))
  ht : PySem.W.takesIn K (.builtin "object.__class__") = some true
  hm : PySem.W.mroIn K C (.type "object") = some true
/-- e.__class__.__name__ -/
def tClsName (K : PySem.W.Frag) (ta : TE) : TE := fun σ H Q => ta σ H fun x H1 => ∃ a C dx fs n, x = .ref a ∧ H1 a = some (.ins C dx fs) ∧ Cls K C ∧ ClsN K C n ∧ Q (.str n) H1
section
variable {X : Cx} {e : Expr} {p1 p2 : Pos} {ta : TE}
theorem pe_clsName (he : PE X e ta) (hb : attributeBase e "__class__" X.env (eval e X.env) = eval e X.env)
    (hb2 : attributeBase (.Attribute e "__class__" p1) "__name__" X.env (eval (.Attribute e "__class__" p1) X.env) = eval (.Attribute e "__class__" p1) X.env) :
    PE X (.Attribute (.Attribute e "__class__" p1) "__name__" p2) (tClsName X.K ta) := by
  refine ⟨fun pins s σ H Q I h => ?_⟩
  refine attr_of hb2 (attr_of hb (thn (he.run pins s σ H _ I h) fun u s1 ⟨x, H1, I1, rx, a, C, dx, fs, n, ex, ea, c, N, q⟩ => ?_))
  subst ex
  obtain rfl : u = Value.ref a := rx
  obtain ⟨mA, O, r, _, _, _⟩ := ins_get I1.hok ea
  obtain ⟨od, J, hl⟩ := O.look
  obtain ⟨m, hF⟩ := I1.fr
  refine PySem.W.get_class hF I1.ok.mod.kin J (c.get _) c.hd N.ha N.hn N.ht N.hm ?_
  have I2 := I1.tok (s1.toks + 1)
  obtain ⟨m2, hF2⟩ := I2.fr
  exact PySem.W.ocn_attr hF2 I2.ok.mod.kin N.nm N.op fun tk u => ⟨.str n, H1, I2.tok u, ⟨_, rfl⟩, q⟩
end
end L2

/-! == and != of own instances by their own ==, with both answers; != of two lists of things that are equal by it. -/
namespace GR
open PySem PySem.SeqAt
open AutoSeq1 (wpAny_loadPart')
open MeetsSeq MeetsSeq2 MeetsSeq3 SeqRoads2
section
variable {prog : Program} {w : World} {A : Around} {R : Result → Shared → Prop}
theorem ne_loopG (l b : Addr) (N : Nat) (I : Nat → Shared → Prop) (hl : GQ.ListI prog w A (fun e s' => R (.error e) s') l b N I)
    (fin : ∀ s, I N s → R (.ok (.ret (.bool false))) s) (k : Nat) :
    ∀ i : Nat, N - i = k → i ≤ N → ∀ s, I i s →
      wpAny (model prog w) A.in1 (Builtin.«list.__eq__.loop» ⟨[.ref l, .ref b, rawInt i, rawInt 3], []⟩) (GQ.FinOf prog w A R) (fun e s' => R (.error e) s') s := by
  induction k with
  | zero =>
    intro i hk hi s h
    obtain ⟨items, items2, n, n2, hl1, hb1, hs1, hs2, _⟩ := hl _ _ h
    have hi' : i = N := by omega
    have hR : R (.ok (.ret (.bool false))) s := fin s (hi' ▸ h)
    obtain ⟨hp, g, d, tk, os⟩ := s
    wp_walk using wpAny_loadPart' hl1, wpAny_loadPart' hb1
    have hi1 : items[((i : Nat) : Int).toNat]? = none := by simp; omega
    have hi2 : items2[((i : Nat) : Int).toNat]? = none := by simp; omega
    rw [hi1, hi2]
    wp_walk using wpAny_loadPart' hl1, wpAny_loadPart' hb1
    show R (.ok (.ret (.bool (items.size != items2.size)))) _
    rw [hs1, hs2]
    simpa using hR
  | succ k ih =>
    intro i hk hi s h
    obtain ⟨items, items2, n, n2, hl1, hb1, hs1, hs2, turn⟩ := hl _ _ h
    have hlt : i < items.size := by omega
    have hlt2 : i < items2.size := by omega
    have ht := turn hlt hlt2
    obtain ⟨hp, g, d, tk, os⟩ := s
    wp_walk using wpAny_loadPart' hl1, wpAny_loadPart' hb1
    have hi1 : items[((i : Nat) : Int).toNat]? = some items[i] := by simp [hlt]
    have hi2 : items2[((i : Nat) : Int).toNat]? = some items2[i] := by simp [hlt2]
    have hc : ((i : Int) + 1) = ((i + 1 : Nat) : Int) := by omega
    rw [hi1, hi2]
    refine wpAny_bind (wpAny_mono ht (fun r s2 h2 => ?_) fun _ _ x => x)
    obtain ⟨hr, h2⟩ := h2
    subst hr
    have hrec := ih (i + 1) (by omega) (by omega) s2 h2
    obtain ⟨hp2, g2, d2, tk2, os2⟩ := s2
    wp_walk
    rw [hc]
    exact ⟨plainId_quiet plain_eq_loop _, codeAny_builtin entry_eq_loop (by
      rw [Around.under_plainId plain_eq_loop _]
      exact hrec)⟩
theorem list_neG (l b : Addr) (N : Nat) (I : Nat → Shared → Prop) (hl : GQ.ListI prog w A (fun e s' => R (.error e) s') l b N I)
    (fin : ∀ s, I N s → R (.ok (.ret (.bool false))) s) {s : Shared} (h : I 0 s) :
    wpAny (model prog w) A.in1 (Builtin.«list.__ne__» ⟨[.ref l, .ref b], []⟩) (GQ.FinOf prog w A R) (fun e s' => R (.error e) s') s := by
  obtain ⟨items, items2, n, n2, hl1, hb1, hs1, hs2, _⟩ := hl _ _ h
  have hrec := ne_loopG (A := A) (R := R) l b N I hl fin _ 0 rfl (Nat.zero_le _) s h
  obtain ⟨hp, g, d, tk, os⟩ := s
  have f3 := AutoSeq1.sub_list_list
  have hne : ¬ (items.size != items2.size) = true := by simp [hs1, hs2]
  wp_walk using wpAny_loadPart' hl1, wpAny_loadPart' hb1
  exact ⟨plainId_quiet plain_eq_loop _, codeAny_builtin entry_eq_loop (by
    rw [Around.under_plainId plain_eq_loop _]
    exact hrec)⟩
end
section
variable {prog : Program} {w : World} {A : Around} {E : Value → Shared → Prop} {s : Shared}
theorem rc_listNG {l b : Addr} {N : Nat} {Q : Value → Shared → Prop} (hu : A.units < cLine) (I : Nat → Shared → Prop) (hl : GQ.ListI prog w A E l b N I)
    (fin : ∀ s, I N s → Q (.bool false) s) (h : I 0 s) : wpAny (model prog w) A (richCompare .NotEq (.ref l) (.ref b)) Q E s := by
  obtain ⟨items, items2, n, n2, hl1, hb1, _, _, _⟩ := hl _ _ h
  refine wpAny_richCompare_same_room (op := .NotEq) ⟨_, hl1, rfl⟩ ⟨_, hb1, rfl⟩ F.slot_list_ne (GQ.call_here F.slot_list_ne ⟨_, hl1, rfl⟩ F.entry_list_ne (F.args_list_ne_2 _ _) ?_) hu
  exact list_neG (R := wants (fun v s' => v ≠ .notImplemented ∧ Q v s') E) l b N I hl (fun s' q => ⟨(fun x => nomatch x), fin s' q⟩) h
end
end GR

namespace PySem.W
open PySem PySem.Calls PyProof.Rows
section
variable {prog : Program} {w : World} {A : Around} {E : Value → Shared → Prop} {s : Shared} {K : Frag} {x y C C' L f : Addr} {h₀ : Heap} {m : Str → Option Value} {ox oy : Obj} {od od' : Option Obj} {b tb : Value}
/-- the right one's class is below the left one's: it is asked first -/
theorem cmp_KR {op : CmpOp} {Q : Value → Shared → Prop} (hu : A.units < cLine) (F : Fr h₀ L s.heap m) (X₀ : K.In h₀) (I : InstAt s.heap x ox C od) (I' : InstAt s.heap y oy C' od') (hne : C' ≠ C) (hsub : subIn K (.ref C') (.ref C) = some true)
    (hs : findIn K (.ref C') (cmpInfo op).2.2 = some (some (.ref f))) (hf : isFn K (.ref f) = true)
    (h : wpAny (model prog w) A (call (.ref f) [.ref y, .ref x]) (CmpBack Q) E s) : wpAny (model prog w) A (richCompare op (.ref x) (.ref y)) Q E s := by
  have X := X₀.keeps F.keep
  have one : wpAny (model prog w) A (tryCompare (.ref y) (cmpInfo op).2.2 (.ref x)) (fun r s' => ∃ v, r = some v ∧ Q v s') E s := by
    unfold tryCompare
    refine wpAny_bind (ifBound_K X I' hs hf (wpAny_mono h (fun v s' hv => ?_) fun _ _ e => e))
    cases v <;> first | exact hv.elim | exact wpAny_pure ⟨_, rfl, hv⟩
  unfold richCompare
  simp only [oneThing_ref]
  refine wpAny_holding (wpAny_bind (wpAny_cRoomFor hu ?_))
  refine wpAny_bind (I.type.here (wpAny_bind (I'.type.here ?_)))
  split
  · refine wpAny_bind ((looks_subIn X hsub).here ?_)
    simp only [if_true]
    refine wpAny_bind (wpAny_mono one (fun r s' z => ?_) fun _ _ e => e)
    obtain ⟨v, rfl, hq⟩ := z
    exact wpAny_bind (wpAny_rule (wpAny_pure hq))
  · rename_i q
    exact absurd (by simp [Ne.symm hne]) q
/-- x != b, the class having no own __ne__: its own == is asked -/
theorem cmp_neK {Q : Value → Shared → Prop} (hu : A.units + 1 < cLine) (F : Fr h₀ L s.heap m) (X₀ : K.In h₀) (I : InstAt s.heap x ox C od) (hb : Looks (model prog w) s.heap (typeOf b) tb) (hn : notFirst K C tb = true)
    (hne : findIn K (.ref C) "__ne__" = some (some (.builtin "object.__ne__"))) (hmr : mroIn K C (.type "object") = some true)
    (hs : findIn K (.ref C) "__eq__" = some (some (.ref f))) (hf : isFn K (.ref f) = true)
    (h : wpAny (model prog w) A.in1 (call (.ref f) [.ref x, b]) (fun v s' => ∃ r, v = .bool r ∧ Q (.bool (!r)) s') E s) : wpAny (model prog w) A (richCompare .NotEq (.ref x) b) Q E s := by
  have X := X₀.keeps F.keep
  have body : ∀ (R : Fin → Shared → Prop) (E' : Value → Shared → Prop), wpAny (model prog w) A.in1 (call (.ref f) [.ref x, b]) (fun v s' => ∃ r, v = .bool r ∧ R (.done (.ret (.bool (!r)))) s') E' s →
      wpAny (model prog w) A.in1 (Builtin.«object.__ne__» ⟨[.ref x, b], []⟩) R E' s := by
    intro R E' hc
    unfold Builtin.«object.__ne__»
    refine wpAny_bind (wpAny_of_eq (a := (.ref x, [b])) (by first | rfl | kernel_rfl) ?_)
    refine wpAny_bind (wpAny_cRoomFor hu ?_)
    refine wpAny_bind (ifBound_K X I hs hf (wpAny_mono hc (fun v s' hv => ?_) fun _ _ e => e))
    obtain ⟨r, rfl, hq⟩ := hv
    exact wpAny_bind (wpAny_truthy_bool (wpAny_pure hq))
  have one : wpAny (model prog w) A (tryCompare (.ref x) "__ne__" b) (fun r s' => ∃ v, r = some v ∧ Q v s') E s := by
    unfold tryCompare
    have fin : wpAny (model prog w) A (call (.builtin "object.__ne__") [.ref x, b]) (fun v s' => v ≠ .notImplemented ∧ Q v s') E s := by
      have SF := PySem.F.cmp_object
      have sub : Looks (model prog w) s.heap (isInstance (.ref x) (.type "object")) true := I.type.andThen (looks_mroIn X hmr)
      refine wpAny_call (codeAny_call_builtin SF.ne.plain PySem.F.cmpEntry_ne (@check_slot (model prog w) _ _ s "object.__ne__" "object" "__ne__" (.ref x) [b] [] _ PySem.F.cmpKind_ne PySem.F.cmpSplit_ne sub (PySem.F.cmpArgs_ne (.ref x) b) ?_))
      refine body _ _ (wpAny_mono h (fun v s' hv => ?_) fun _ _ e => e)
      obtain ⟨r, rfl, hq⟩ := hv
      exact ⟨r, rfl, ⟨fun z => (nomatch z), hq⟩⟩
    simp only [callSpecialIfBound?, bindSpecialIfBound?]
    refine wpAny_bind (wpAny_holding (wpAny_bind (wpAny_bind (wpAny_bind (I.type.here ((looks_findIn X hne).here ?_))))))
    refine wpAny_bind (wpAny_askSetting (wpAny_ite ?_))
    have fin2 : wpAny (model prog w) A (call (.builtin "object.__ne__") ([.ref x] ++ [b]) >>= fun v => pure (some v)) (fun r s' => wpAny (model prog w) A (match r with
      | some Value.notImplemented | none => pure none
      | some v => pure (some v)) (fun r s' => ∃ v, r = some v ∧ Q v s') E s') E s := wpAny_bind (wpAny_mono fin (fun v s' hv => wpAny_pure (by
        obtain ⟨h1, h2⟩ := hv
        cases v <;> first | exact absurd rfl h1 | exact wpAny_pure ⟨_, rfl, h2⟩)) fun _ _ e => e)
    simp only [PySem.F.cmp_object.ne.bind]
    split
    · refine wpAny_bind (wpAny_pure (wpAny_pure ?_))
      exact fin2
    · refine wpAny_tryCatch (wpAny_bind (wpAny_pure (wpAny_pure ?_)))
      exact fin2
  unfold richCompare
  simp only [oneThing_ref]
  refine wpAny_holding (wpAny_bind (wpAny_cRoomFor (Nat.lt_of_succ_lt hu) ?_))
  refine wpAny_bind (I.type.here (wpAny_bind (hb.here ?_)))
  split
  · rename_i q
    have e : subIn K tb (.ref C) = some false := by
      rcases Bool.or_eq_true_iff.mp hn with e | e
      · rw [beq_iff_eq.mp e] at q; simp at q
      · exact beq_iff_eq.mp e
    refine wpAny_bind ((looks_subIn X e).here ?_)
    simp only [Bool.false_eq_true, if_false]
    refine wpAny_bind (wpAny_mono one (fun r s' z => ?_) fun _ _ e => e)
    obtain ⟨v, rfl, hq⟩ := z
    exact wpAny_pure hq
  · refine wpAny_bind (wpAny_pure ?_)
    simp only [Bool.false_eq_true, if_false]
    refine wpAny_bind (wpAny_mono one (fun r s' z => ?_) fun _ _ e => e)
    obtain ⟨v, rfl, hq⟩ := z
    exact wpAny_pure hq
end
end PySem.W

/-! The same over the layer. -/
namespace L2
open PySem PySem.Spec PyProof.Rows
/-- what == (or !=) answers of two values, by the abstract heap -/
abbrev EqB := V → V → Hp → Bool → Prop
def RcB (X : Cx) (op : CmpOp) (n : Nat) (D : EqB) : Prop :=
  ∀ (A : Around) (pins : List (Addr × Obj)) (s : Shared) (σ : St) (H : Hp) (x y : V) (u v : Value) (r : Bool), Sub X n A → Inv X pins σ H s → RelV x u → RelV y v → D x y H r →
    wpAny (model X.prog X.w) A (richCompare op u v) (fun z s' => z = .bool r ∧ ∃ H', Inv X pins σ H' s' ∧ Ext H H') X.xe s
/-- what the text's == promises -/
def spEqB (D : EqB) : Sp := fun vs H Q _ => ∃ x y r, vs = [x, y] ∧ D x y H r ∧ ∀ H', Ext H H' → Q (.bl r) H'
/-- what a class must have for == and != -/
structure OwnE (K : PySem.W.Frag) (C f : Addr) : Prop where
  eq : PySem.W.findIn K (.ref C) "__eq__" = some (some (.ref f))
  fn : PySem.W.isFn K (.ref f) = true
  ne : PySem.W.findIn K (.ref C) "__ne__" = some (some (.builtin "object.__ne__"))
  hm : PySem.W.mroIn K C (.type "object") = some true
/-- what stands on the right: no instance of a class below C -/
inductive RightOf (K : PySem.W.Frag) (C : Addr) (H : Hp) : V → Prop where
  | ins {b C' dy : Addr} {gs : List (Str × V)} (h : H b = some (.ins C' dy gs)) (n : PySem.W.notFirst K C (.ref C') = true) : RightOf K C H (.ref b)
  | lst {b : Addr} {xs : List V} (h : H b = some (.lst xs)) (n : PySem.W.notFirst K C (.type "list") = true) : RightOf K C H (.ref b)
section
variable {X : Cx} {n m : Nat} {pins : List (Addr × Obj)} {σ : St} {H : Hp} {s : Shared}
theorem RightOf.look {C : Addr} {y : V} {v : Value} (h : RightOf X.K C H y) (I : Inv X pins σ H s) (r : RelV y v) :
    ∃ tb, PySem.W.Looks (model X.prog X.w) s.heap (typeOf v) tb ∧ PySem.W.notFirst X.K C tb = true := by
  cases h with
  | ins h n =>
    cases r
    obtain ⟨mA, J, _⟩ := ins_get I.hok h
    obtain ⟨od, J, _⟩ := J.look
    exact ⟨_, J.type, n⟩
  | lst h n =>
    cases r
    obtain ⟨_, its, k, _, e⟩ := I.hok _ _ h
    refine ⟨_, ?_, n⟩
    intro A Q E s' k' q
    refine wpAny_typeOf_ref (k' _ _ e) q
/-- the run of the text's == -/
theorem run_eqB {D : EqB} {f : Addr} {fd : FuncData} {ps : List Str} (F : FnOk X.prog X.w X.K X.mg X.base CX0 n f fd ps (spEqB D)) (hb : Binds X.K fd ps []) {A : Around} {u v : Value} {x y : V} {r : Bool}
    (sb : Sub X n A) (I : Inv X pins σ H s) (ru : RelV x u) (rv : RelV y v) (d : D x y H r) :
    wpAny (model X.prog X.w) A (call (.ref f) [u, v]) (fun z s' => z = .bool r ∧ ∃ H', Inv X pins σ H' s' ∧ Ext H H') X.xe s := by
  have hsp : spEqB D [x, y] H (fun v H' => v = .bl r ∧ Ext H H') E0 := ⟨x, y, r, rfl, d, fun H' e => ⟨rfl, e⟩⟩
  have e0 : Env0 X.prog X.w X.K X.mg X.base A X.stack s H := by
    have e := I.env0
    exact ⟨by rw [sb.fr]; exact e.frames, e.mod, e.bs, e.bsz, e.funs, e.frf, e.hok, e.bare⟩
  have hl := F.len _ _ _ _ hsp
  have r2 : Vals [x, y] [u, v] := .cons ru (.cons rv .nil)
  refine wpAny_call (codeAny_mono (F.run A X.stack s H ⟨[u, v], []⟩ [u, v] [x, y] _ E0 sb.room e0 (by
    have := hb s [u, v] I.kIn (by simpa using hl)
    simpa using this) r2 hsp) fun q s' hq => ?_)
  cases q with
  | error e => exact False.elim hq
  | ok fl =>
    cases fl with
    | ret w =>
      obtain ⟨z, H', I', rz, ez, ex⟩ := I.after hq
      subst ez
      cases rz
      exact ⟨rfl, H', I', ex⟩
    | next => exact False.elim hq
    | brk => exact False.elim hq
    | cont => exact False.elim hq
theorem Sub.in1' {A : Around} (sb : Sub X (n + 1) A) : Sub X n A.in1 := sb.in1
/-- x == y by the left one's own == -/
theorem rcB_left {D : EqB} {f : Addr} {fd : FuncData} {ps : List Str} (F : FnOk X.prog X.w X.K X.mg X.base CX0 n f fd ps (spEqB D)) (hb : Binds X.K fd ps []) :
    RcB X .Eq n (fun x y H r => ∃ a C dx fs, x = .ref a ∧ H a = some (.ins C dx fs) ∧ OwnE X.K C f ∧ RightOf X.K C H y ∧ D x y H r) := by
  intro A pins s σ H x y u v r sb I ru rv d
  obtain ⟨a, C, dx, fs, rfl, ha, O, R, d⟩ := d
  cases ru
  obtain ⟨mA, J, _⟩ := ins_get I.hok ha
  obtain ⟨od, J, _⟩ := J.look
  obtain ⟨m, hF⟩ := I.fr
  obtain ⟨tb, hT, hn⟩ := R.look I rv
  refine PySem.W.cmp_K (op := .Eq) (tb := tb) sb.room.units0 hF I.ok.mod.kin J hT hn O.eq O.fn (wpAny_mono (run_eqB (x := .ref a) F hb sb I rfl rv d) (fun z s' h => ?_) fun _ _ e => e)
  obtain ⟨rfl, h⟩ := h
  exact ⟨rfl, h⟩
/-- x == y, the right one's class being below the left one's -/
theorem rcB_right {D : EqB} {f : Addr} {fd : FuncData} {ps : List Str} (F : FnOk X.prog X.w X.K X.mg X.base CX0 n f fd ps (spEqB D)) (hb : Binds X.K fd ps []) :
    RcB X .Eq n (fun x y H r => ∃ a C dx fs b C' dy gs, x = .ref a ∧ H a = some (.ins C dx fs) ∧ y = .ref b ∧ H b = some (.ins C' dy gs) ∧ C' ≠ C ∧ PySem.W.subIn X.K (.ref C') (.ref C) = some true ∧ OwnE X.K C' f ∧ D y x H r) := by
  intro A pins s σ H x y u v r sb I ru rv d
  obtain ⟨a, C, dx, fs, b, C', dy, gs, rfl, ha, rfl, hb', hne, hsub, O, d⟩ := d
  cases ru
  cases rv
  obtain ⟨mA, J, _⟩ := ins_get I.hok ha
  obtain ⟨od, J, _⟩ := J.look
  obtain ⟨mB, J', _⟩ := ins_get I.hok hb'
  obtain ⟨od', J', _⟩ := J'.look
  obtain ⟨m, hF⟩ := I.fr
  refine PySem.W.cmp_KR (op := .Eq) sb.room.units0 hF I.ok.mod.kin J J' hne hsub O.eq O.fn (wpAny_mono (run_eqB (x := .ref b) (y := .ref a) F hb sb I rfl rfl d) (fun z s' h => ?_) fun _ _ e => e)
  obtain ⟨rfl, h⟩ := h
  exact ⟨rfl, h⟩
/-- x != y by the left one's own == -/
theorem rcB_ne {D : EqB} {f : Addr} {fd : FuncData} {ps : List Str} (F : FnOk X.prog X.w X.K X.mg X.base CX0 n f fd ps (spEqB D)) (hb : Binds X.K fd ps []) :
    RcB X .NotEq (n + 1) (fun x y H r => ∃ a C dx fs, x = .ref a ∧ H a = some (.ins C dx fs) ∧ OwnE X.K C f ∧ RightOf X.K C H y ∧ D x y H (!r)) := by
  intro A pins s σ H x y u v r sb I ru rv d
  obtain ⟨a, C, dx, fs, rfl, ha, O, R, d⟩ := d
  cases ru
  obtain ⟨mA, J, _⟩ := ins_get I.hok ha
  obtain ⟨od, J, _⟩ := J.look
  obtain ⟨m, hF⟩ := I.fr
  obtain ⟨tb, hT, hn⟩ := R.look I rv
  refine PySem.W.cmp_neK (tb := tb) (by have := sb.room.units; omega) hF I.ok.mod.kin J hT hn O.ne O.hm O.eq O.fn (wpAny_mono (run_eqB (x := .ref a) F hb sb.in1 I rfl rv d) (fun z s' h => ?_) fun _ _ e => e)
  obtain ⟨rfl, h⟩ := h
  exact ⟨!r, rfl, by rw [Bool.not_not]; exact ⟨rfl, h⟩⟩
/-- a comparison by such a rule -/
def rCmpB (D : EqB) : R2 := fun x y H Q => ∃ r, D x y H r ∧ ∀ H', Ext H H' → Q (.bl r) H'
theorem op_eqB {D : EqB} (h : RcB X .Eq n D) (hr : Room n X.A) : OpR X (compareOp .Eq) (rCmpB D) := by
  intro pins s σ H x y v u Q I rx ry hq
  obtain ⟨r, d, q⟩ := hq
  show wpAny (model X.prog X.w) X.A (richCompare .Eq v u) (EP X pins σ Q) X.xe s
  refine wpAny_mono (h X.A pins s σ H x y v u r ⟨hr, rfl⟩ I rx ry d) (fun z s' hz => ?_) fun _ _ x => x
  obtain ⟨rfl, H', I', e⟩ := hz
  exact ⟨.bl r, H', I', rfl, q H' e⟩
theorem op_neB {D : EqB} (h : RcB X .NotEq n D) (hr : Room n X.A) : OpR X (compareOp .NotEq) (rCmpB D) := by
  intro pins s σ H x y v u Q I rx ry hq
  obtain ⟨r, d, q⟩ := hq
  show wpAny (model X.prog X.w) X.A (richCompare .NotEq v u) (EP X pins σ Q) X.xe s
  refine wpAny_mono (h X.A pins s σ H x y v u r ⟨hr, rfl⟩ I rx ry d) (fun z s' hz => ?_) fun _ _ x => x
  obtain ⟨rfl, H', I', e⟩ := hz
  exact ⟨.bl r, H', I', rfl, q H' e⟩
/-- what is equal, for the items of lists -/
theorem RcB.rcG {D : EqB} (h : RcB X .Eq n D) : RcG X n (fun x y H => D x y H true) := fun A pins s σ H x y u v sb I rx ry d => h A pins s σ H x y u v true sb I rx ry d
/-- xs != ys, two lists whose items are equal one by one -/
def rNeL (D : Eqv) : R2 := fun x y H Q => ∃ a b xs ys, x = .ref a ∧ y = .ref b ∧ H a = some (.lst xs) ∧ H b = some (.lst ys) ∧ Prs D xs ys H ∧ ∀ H', Ext H H' → Q (.bl false) H'
theorem op_neL {D : Eqv} (hD : Mon D) (h : EqG X n D) (hr : Room (n + 1) X.A) : OpR X (compareOp .NotEq) (rNeL D) := by
  intro pins s σ H x y v u Q I rx ry hq
  obtain ⟨a, b, xs, ys, rfl, rfl, ha, hb, p, q⟩ := hq
  cases rx
  cases ry
  have sb : Sub X (n + 1) X.A := ⟨hr, rfl⟩
  show wpAny (model X.prog X.w) X.A (richCompare .NotEq (.ref a) (.ref b)) (EP X pins σ Q) X.xe s
  refine GR.rc_listNG (N := xs.length) hr.units0 (fun _ s' => LoopI X pins σ H s') (fun i s' q => ?_) (fun s' z => ?_) ⟨H, I, Ext.rfl'⟩
  · obtain ⟨H1, I1, e1⟩ := id q
    obtain ⟨z, its, k, r, e⟩ := I1.hok a _ (e1 _ _ ha)
    obtain ⟨z2, its2, k2, r2, e2⟩ := I1.hok b _ (e1 _ _ hb)
    refine ⟨its.toArray, its2.toArray, k, k2, e, e2, by rw [List.size_toArray, ← r.length], by rw [List.size_toArray, ← r2.length, ← p.1], fun h1 h2 => ?_⟩
    exact turnG hD h sb p r r2 i h1 h2 s' q
  · obtain ⟨H', I', e⟩ := z
    exact ⟨.bl false, H', I', rfl, q H' e⟩
end

/-! ### repr of data -/
/-- what repr gives of data -/
def rRepr (K : PySem.W.Frag) : List V → Hp → VK → Prop := fun xs H Q => ∃ x d, xs = [x] ∧ Dp K H x d ∧ d.showable = true ∧ d.hasDict = false ∧ d.depth ≤ 60 ∧ d.shown.length ≤ sizeLine ∧ Q (.str d.shown) H
theorem call_repr {X : Cx} (hg : X.A.guards = some []) (hu : X.A.units + 64 < cLine) : CallR X (.builtin "repr") (rRepr X.K) := by
  intro pins s σ H xs us Q I r h
  obtain ⟨x, d, rfl, hd, hs, hdict, hdep, hz, q⟩ := h
  obtain ⟨u, rfl, ru⟩ := vals1 r
  have fin : ∀ {z : Str}, d.shown = z → ∀ (h' : Heap) (tk : Tok) (t : Nat), (∀ b o, s.heap.get? b = some o → h'.get? b = some o) → EP X pins σ Q (.str z tk) { s with heap := h', toks := t } := by
    intro z e h' tk t k
    subst e
    exact ⟨.str d.shown, H, I.kept k, ⟨_, rfl⟩, q⟩
  cases hd with
  | non => cases ru; exact PySem.P.repr_of_none (fin (PyData.shown_none) s.heap _ _ fun _ _ e => e)
  | bl b =>
    cases ru
    refine PySem.P.repr_of_bool ?_
    cases b
    · exact fin (PyData.shown_bool false) s.heap _ _ fun _ _ e => e
    · exact fin (PyData.shown_bool true) s.heap _ _ fun _ _ e => e
  | int i =>
    obtain ⟨t, rfl⟩ := ru
    refine PySem.P.repr_of_int ?_ (fin (PyData.shown_int i) s.heap _ _ fun _ _ e => e)
    simpa [PyData.showable] using hs
  | str z =>
    obtain ⟨t, rfl⟩ := ru
    exact PySem.P.repr_of_str (fin (PyData.shown_str z) s.heap _ _ fun _ _ e => e) (by rw [← PyData.shown_str]; exact hz)
  | lst h1 h2 =>
    cases ru
    obtain ⟨as, hr⟩ := Dp.reads I _ _ _ (Dp.lst h1 h2) rfl
    exact repr_of_reads' hr hs (PyData.noDict_hsm hdict) hg (by omega) (fun _ _ e => e) (fun h' u tk k => fin rfl h' u tk k) hz
  | tup h1 h2 =>
    cases ru
    obtain ⟨as, hr⟩ := Dp.reads I _ _ _ (Dp.tup h1 h2) rfl
    exact repr_of_reads' hr hs (PyData.noDict_hsm hdict) hg (by omega) (fun _ _ e => e) (fun h' u tk k => fin rfl h' u tk k) hz
end L2

/-! A def whose first statement is super().__init__(..). -/
namespace SupX
open PySem PySem.Spec PyProof.Rows L2
open PySem.W (ks_superIn)

/-- the def's own facts, as they stand in the written part -/
structure SupFun (P : Program) (K : PySem.W.Frag) (F : NdefX.NF) (f cc D : Addr) (fd : FuncData) : Prop where
  ex : ∃ (oc : Value) (od : Option Addr) (osl : Array (Option Value)) (kV doc pm : Value) (an : Option Addr) (ct : Value),
    K.lookup f = some ⟨oc, od, .func fd, osl⟩ ∧ fd = PySem.W.fnX F.name F.qual F.params F.body F.scope F.cl .none kV doc pm an (.ref F.c) ct
  cl : F.cl = ([(("__class__" : Str), cc)] : List (Str × Addr))
  cd : PySem.W.codeIn K (.ref F.c) F.qual = true
  cell : ∃ (o1 : Value) (o2 : Option Addr) (o3 : Array (Option Value)), K.lookup cc = some ⟨o1, o2, .cell (some (.ref D)), o3⟩
  code : ∃ (o1 : Value) (o2 : Option Addr) (o3 : Array (Option Value)) (vs : Array Value) (file : Str) (tf : Tok), K.lookup F.c = some ⟨o1, o2, .fields vs, o3⟩ ∧ vs[2]? = some (.str file tf) ∧ ((P.main.file : Str) == file) = true
  cls : ∃ cd, PySem.W.clsIn K D = some cd
  kp : PySem.W.keepIn K (.ref f) = true
/-- what the text must have -/
structure SupTxt (P : Program) (K : PySem.W.Frag) (mg : Str → Option Value) : Prop where
  top : (P.main.scope.names.lookup ("super" : Str)).isSome = false
  sup : mg "super" = none
  any : PySem.W.nsIn K cStatics "thirdparty.any" = some none
section
variable {P : Program} {w : World} {K : PySem.W.Frag} {mg : Str → Option Value} {base : Heap} {k : Nat} {N ps : List Str} {F : NdefX.NF} {f cc D : Addr} {fd : FuncData} {sp : Sp}
theorem fn_super {p0 p1 apos cpos epos : Pos} {e0 : Expr} {es : List Expr} {rest : List Stmt} {ar : Arg} {pl : Sem Bool} (SF : SupFun P K F f cc D fd) (T : SupTxt P K mg) (S : NdefX.NScope N ps ["__class__"] F.scope)
    (hks : F.scope.names.lookup ("super" : Str) = some .globalImplicit) (har : (F.params.posonlyargs ++ F.params.args).head? = some ar) (hp0 : ps[0]? = some ar.arg)
    (hbody : F.body = .Expr (.Call (.Attribute (.Call (.Name "super" p0) [] [] p1) "__init__" apos) (e0 :: es) [] cpos) epos :: rest)
    (hev : ∀ L, eval (.Call (.Attribute (.Call (.Name "super" p0) [] [] p1) "__init__" apos) (e0 :: es) [] cpos) (NdefX.envF F f L) = (do
      let ov ← attributeBase (.Call (.Name "super" p0) [] [] p1) "__init__" (NdefX.envF F f L) (eval (.Call (.Name "super" p0) [] [] p1) (NdefX.envF F f L))
      standAt apos.atName
      let (g, first) ← holding [ov] (getMethod ov "__init__" pl)
      callWith cpos g first (backTo cpos (starEach (e0 :: es) (NdefX.envF F f L))) []))
    (hint : ∀ L, interactive (NdefX.envF F f L) = false) (hsw : ∀ L, swapsWith (.Call (.Attribute (.Call (.Name "super" p0) [] [] p1) "__init__" apos) (e0 :: es) [] cpos) none epos.line (NdefX.envF F f L) = pure false)
    (len : ∀ vs H Q E, sp vs H Q E → vs.length = ps.length)
    (h : ∀ (A : Around) (outer : List Env) (s : Shared) (H : Hp) (vs : List V) (Q : VK) (E : XK), Room k (A.deeper (NdefX.envF F f s.heap.objs.size)) → sp vs H Q E →
      ∃ (x C dx : Addr) (fs : List (Str × V)) (f2 : Addr) (sp2 : Sp) (ta : TA) (tr : TS), vs[0]? = some (.ref x) ∧ H x = some (.ins C dx fs) ∧ PySem.W.mroIn K C (.ref D) = some true ∧ ks_superIn K C D "__init__" = some (some (.ref f2)) ∧
        PySem.W.typeIn K (.ref f2) = some (.type "function") ∧ PySem.W.fnIn K f2 = true ∧ FnR P w K mg base CX0 k f2 sp2 ∧
        PA (NdefX.ncx CX0 P w K mg base N F f A outer s H E).nox (e0 :: es) ta ∧ starEach (e0 :: es) (NdefX.envF F f s.heap.objs.size) = (false, eval e0 (NdefX.envF F f s.heap.objs.size)) :: starEach es (NdefX.envF F f s.heap.objs.size) ∧
        (backTo cpos (starEach es (NdefX.envF F f s.heap.objs.size))).any (·.1) = false ∧
        PSs (NdefX.ncx CX0 P w K mg base N F f A outer s H E).nox rest tr ∧
        ta (NdefX.startF N vs [none]) H (fun ws H1 => sp2 (.ref x :: ws) H1 (fun _ H2 => tr { nx := fun _ H' => Q .non H', rt := Q } (NdefX.startF N vs [none]) H2) E0)) :
    FnOk P w K mg base CX0 (k + 1) f fd ps sp := by
  refine ⟨len, fun A outer s H args us vs Q E hr e0' hb r hsp => ?_⟩
  have hl := len _ _ _ _ hsp
  have KX : K.In s.heap := e0'.mod.kin.keeps fun b o e => (e0'.bs b o e).1
  have lim : s.heap.NoLimit := e0'.mod.nolimit.keeps fun b o e => (e0'.bs b o e).1
  obtain ⟨oc, od, osl, kV, doc, pm, an, ct, lk, hfd⟩ := SF.ex
  obtain ⟨o1, o2, o3, hcell⟩ := SF.cell
  obtain ⟨c1, c2, c3, cvs, file, tf, hcode, hvs, hfile⟩ := SF.code
  obtain ⟨cdD, hD⟩ := SF.cls
  have inBase : ∀ b o, K.lookup b = some o → base.get? b = some o := fun b o e => e0'.mod.kin b o e
  have C : NdefX.CellsAt F.cl ["__class__"] [none] s.heap H := by
    have hc0 : ∀ y c, F.cl.lookup y = some c → y = "__class__" ∧ c = cc := fun y c e => by
      rw [SF.cl] at e
      by_cases q : y = "__class__"
      · subst q
        simp [List.lookup] at e
        exact ⟨rfl, e.symm⟩
      · have : (y == ("__class__" : Str)) = false := beq_eq_false_iff_ne.mpr q
        simp [List.lookup, this] at e
    refine ⟨rfl, fun y c e => ?_, fun x y c h1 h2 => (hc0 x c h1).1.trans (hc0 y c h2).1.symm, fun i y hy => ?_⟩
    · obtain ⟨_, rfl⟩ := hc0 y c e
      exact ⟨(e0'.bs _ _ (inBase _ _ hcell)).2, _, _, KX _ _ hcell, rfl⟩
    · refine ⟨cc, ?_, fun v hv => ?_⟩
      · cases i with
        | zero =>
          simp at hy
          subst hy
          rw [SF.cl]
          rfl
        | succ i => simp at hy
      · cases i with
        | zero => simp at hv
        | succ i => simp at hv
  have hpar : ∀ y ∈ ps.zip us, F.scope.names.lookup y.1 = some .local := fun ⟨n, v⟩ hy => S.par n (List.of_mem_zip hy).1
  subst hfd
  refine ks_codeAny_call_defAt (body := F.body) (binds := ps.zip us) hr.depth (KX _ _ lk) rfl lim (PySem.W.codeRec_of KX SF.cd) rfl hb S.nocell hpar (fun h₁ hns kp => ?_) S.co S.gen S.kind
  obtain ⟨x, C', dx, fs, f2, sp2, ta, tr, hx0, hx, hmro, hsup, ht2, hf2, F2, ha, hst, hpl, htr, hq⟩ := h A outer s H vs Q E (hr.deeper _) hsp
  have I0 := (NdefX.inv_startN (E := E) (CX := CX0) (f := f) S hr.hd e0' hl r C hns kp (tk := s.toks + (ps.zip us).length)).wish fun _ _ => False
  show PySem.wpAt _ (A.deeper (NdefX.envF F f s.heap.objs.size)) (.func F.body (NdefX.envF F f s.heap.objs.size)) (execs F.body (NdefX.envF F f s.heap.objs.size)) _ _ _
  -- the end
  refine ks_wpAt_mono (Q := fun fl s' => SP (NdefX.ncx CX0 P w K mg base N F f A outer s H E).nox [] { nx := fun _ H' => Q .non H', rt := Q } fl s') (E := fun _ _ => False) ?_ (fun fl s' hs => ?_) (fun _ _ z => z.elim)
  · -- the body
    rw [hbody]
    refine ks_wpAt_execs_cons (ks_wpAt_Expr_any (ks_wpAt_MethodCall ?_ (hev _)) (hint _) (hsw _))
    have hself : (NdefX.startF N vs [none])[0]? = some (some (.ref x)) := by
      unfold NdefX.startF
      have : 0 < (vs.map some).length := by
        rw [List.length_map]
        exact (List.getElem?_eq_some_iff.mp hx0).1
      rw [List.getElem?_append_left this, List.getElem?_map, hx0]
      rfl
    have hN0 : N[0]? = some ar.arg := by
      have h1 : (ps ++ (["__class__"] : List Str))[0]? = some ar.arg := by
        rw [List.getElem?_append_left (List.getElem?_eq_some_iff.mp hp0).1]
        exact hp0
      rw [← S.pre] at h1
      rw [List.getElem?_take_of_lt (by simp)] at h1
      exact h1
    have hka : F.scope.names.lookup ar.arg = some .local := S.par _ (List.mem_of_getElem? hp0)
    have hkc : F.scope.names.lookup ("__class__" : Str) = some .free := S.frk _ (by simp)
    have KX1 : K.In h₁ := KX.keeps kp
    refine ks_wpAt_super_base (env := NdefX.envF F f s.heap.objs.size) (ar := ar) hks hkc (by decide +kernel) rfl (kp _ _ (KX _ _ lk)) rfl har rfl (kp _ _ (KX _ _ hcode)) rfl hvs hfile T.top ?_
    -- super
    obtain ⟨mb, hb1, hb2⟩ := e0'.mod.blt
    have bk : ∀ b o, base.get? b = some o → h₁.get? b = some o := fun b o e => kp _ _ (e0'.bs b o e).1
    refine PySem.W.ks_loadName_global S.kind hks (Calls.loadGlobal_builtin (e0'.mod.glob.keeps bk) T.sup (hb1.keeps bk) ((hb2 _ (by decide +kernel)).trans (show bootBuiltins ("super" : Str) = some (.type "super") by kernel_rfl)) ⟨rfl, ?_⟩)
    -- __class__
    have hcl : F.cl.lookup ("__class__" : Str) = some cc := by rw [SF.cl]; rfl
    refine wpAny_loadName_free S.kind hkc hcl ⟨_, KX1 _ _ hcell, rfl⟩ ?_
    -- self
    obtain ⟨u0, hu0, ru0⟩ := r.get hx0
    cases ru0
    have hlk : (ps.zip us).reverse.lookup ar.arg = some (.ref x) := by
      have ndP : ps.Nodup := by
        have q := S.nd.sublist (List.take_sublist (ps.length + 1) N)
        have e := S.pre
        simp only [List.length_cons, List.length_nil] at e
        rw [e] at q
        exact (List.nodup_append.mp q).1
      exact NdefX.zip_look ndP hp0 hu0
    refine wpAny_loadName_local S.kind hka hns hlk ?_
    obtain ⟨oD, hD1, hD2⟩ : ∃ oD, h₁.get? D = some oD ∧ oD.data = .cls cdD := by
      unfold PySem.W.clsIn at hD
      split at hD
      · rename_i c d cd' sl ho
        cases hD
        exact ⟨_, KX1 _ _ ho, rfl⟩
      · cases hD
    refine ks_wpAny_isType_cls hD1 hD2 ⟨rfl, ?_⟩
    obtain ⟨mA, O, _⟩ := ins_get I0.hok hx
    obtain ⟨odx, J, _⟩ := O.look
    refine ks_wpAny_call_super hD1 hD2 J.at_ J.cls (fun c e => ?_) (PySem.W.looks_mroIn KX1 hmro) (fun h2 hso k2 => ?_)
    · have := J.no
      unfold PySem.W.notCls at this
      rw [e] at this
      exact Bool.noConfusion this
    have I1 := I0.kept (t' := s.toks + (ps.zip us).length) k2
    have KX2 : K.In h2 := KX1.keeps k2
    -- its method
    obtain ⟨cd, hc⟩ : ∃ cd, PySem.W.clsIn K C' = some cd := by
      cases hc : PySem.W.clsIn K C' with
      | none => unfold ks_superIn at hsup; rw [hc] at hsup; cases hsup
      | some cd => exact ⟨cd, rfl⟩
    unfold ks_superIn at hsup
    rw [hc] at hsup
    obtain ⟨of, hof, hofc⟩ : ∃ of, h2.get? f2 = some of ∧ of.cls = .type "function" := by
      have ht' : (K.lookup f2).map (·.cls) = some (.type "function") := ht2
      cases z : K.lookup f2 with
      | none => rw [z] at ht'; cases ht'
      | some of => rw [z] at ht'; exact ⟨of, KX2 _ _ z, Option.some.inj ht'⟩
    refine ks_wpAny_getMethod_super hso (PySem.W.looks_opaque KX2 T.any) (l₀ := cd.mro) ?_ rfl KX2 hsup hof hofc (PySem.W.ks_ne KX1 J hc) (by decide +kernel) ?_
    · exact fun A Q E s k q => wpAny_bind ((PySem.W.looks_clsIn KX2 hc) A _ E s k (wpAny_pure q))
    have k3 : ∀ b o, h2.get? b = some o → (h2.push (PySem.W.methodObj (.ref f2) (.ref x))).get? b = some o := fun b o e => Heap.get?_push_of_some _ e
    have I2 := I1.kept (t' := s.toks + (ps.zip us).length + 1) k3
    have hm : (h2.push (PySem.W.methodObj (.ref f2) (.ref x))).get? h2.objs.size = some (PySem.W.methodObj (.ref f2) (.ref x)) := Heap.get?_push_size _ rfl
    have I3 : Inv (NdefX.ncx CX0 P w K mg base N F f A outer s H E).nox [(h2.objs.size, PySem.W.methodObj (.ref f2) (.ref x))] (NdefX.startF N vs [none]) H
        { s with heap := h2.push (PySem.W.methodObj (.ref f2) (.ref x)), toks := s.toks + (ps.zip us).length + 1 } := I2.pins_of fun p hp => by
      have e : p = (h2.objs.size, PySem.W.methodObj (.ref f2) (.ref x)) := by simpa using hp
      subst e
      refine ⟨hm, I1.hok.fresh (Nat.le_refl _), ?_, ?_, fun v z => nomatch z⟩
      · intro z
        have := I1.lt
        have e : h2.objs.size = (NdefX.ncx CX0 P w K mg base N F f A outer s H E).nox.env.locals := z
        rw [← e] at this
        exact absurd this (Nat.lt_irrefl _)
      · exact I1.nofs (Nat.le_refl _)
    -- the call
    dsimp only
    rw [hst]
    refine PySem.W.callWith_of (P := PySem.W.MethP K h2.objs.size f2 (.ref x)) (keywords := []) ?_ (PySem.W.keeps_M hf2) (PySem.Calls.evalArgs_plain ?_)
    · show ((false || (backTo cpos (starEach es _)).any (·.1)) || false) = false
      rw [hpl]
      rfl
    have hrun := ha.run cpos _ _ _ H _ I3 hq
    have hst' : starEach (e0 :: es) (NdefX.ncx CX0 P w K mg base N F f A outer s H E).nox.env = (false, eval e0 (NdefX.envF F f s.heap.objs.size)) :: starEach es (NdefX.envF F f s.heap.objs.size) := hst
    rw [hst'] at hrun
    refine thn hrun fun us2 s2 ⟨ws, H1, I4, rw_, q⟩ => ?_
    have hpin := I4.pin (h2.objs.size, PySem.W.methodObj (.ref f2) (.ref x)) (List.mem_append_right _ (by simp))
    refine ⟨⟨hpin.1, I4.kIn⟩, ?_⟩
    refine wpAny_call (PySem.W.method_call hpin.1 ?_)
    have I5 : Inv (NdefX.ncx CX0 P w K mg base N F f A outer s H E).nox [] (NdefX.startF N vs [none]) H1 s2 := I4.pins_of fun p hp => absurd hp (by simp)
    refine codeAny_mono (run_fnR (us := .ref x :: us2) (vs := .ref x :: ws) F2 (hr.deeper _) pass0 I5 (.cons rfl rw_) q) fun r' s' hq' => ?_
    cases r' with
    | error e => exact hq'
    | ok fl =>
      cases fl with
      | ret u =>
        obtain ⟨v, H', I6, rv, q6⟩ := hq'
        exact wpAt_of_wpAny (htr.run [] s' _ H' _ I6 q6)
      | next => exact hq'
      | brk => exact hq'
      | cont => exact hq'
  · -- the end
    have fin : ∀ {σ' : L2.St} {H' : Hp} {v : V} {u : Value}, Inv (NdefX.ncx CX0 P w K mg base N F f A outer s H E).nox [] σ' H' s' → RelV v u → Q v H' → CE outer P w H s Q u s' :=
      fun {σ' H' v u} J rv q => ⟨v, H', J.os, J.bare, J.base, J.hok, rv, q⟩
    cases fl with
    | ret u =>
      obtain ⟨v, σ', H', J, rv, q⟩ := hs
      exact fin J rv q
    | next =>
      obtain ⟨σ', H', J, q⟩ := hs
      exact fin (v := V.non) (u := Value.none) J rfl q
    | brk =>
      obtain ⟨_, _, _, q⟩ := hs
      exact False.elim q
    | cont =>
      obtain ⟨_, _, _, q⟩ := hs
      exact False.elim q
end
end SupX

/-! bool(x) by an own __bool__; targets that are attributes. -/
namespace BoX
open PySem PySem.Spec PyProof.Rows L2
section
variable {prog : Program} {w : World} {A : Around} {E : Value → Shared → Prop} {s : Shared} {x : Value}
theorem code_bool_new {Q₁ : Value → Shared → Prop} (h : wpAny (model prog w) A.in1 (truthy x) (fun b s' => Q₁ (.bool b) s') E s) :
    codeAny (model prog w) A (.call (.builtin "bool.__new__") ⟨[.type "bool", x], []⟩) (wants Q₁ E) s := by
  refine codeAny_call_builtin PySem.F.called_bool.plain PySem.F.entry_bool_new (wpAny_of_eq (PySem.F.newCall_bool_1 x) ?_)
  have f1 := PySem.F.conv_sub_bool
  obtain ⟨hp, g, d, tk, os⟩ := s
  unfold Builtin.«bool.__new__»
  repeat (any_goals (first | assumption | (refine wpAny_bind (m := truthy x) (wpAny_mono h (fun b s' hb => ?_) fun _ _ z => z)) | wp_step))
theorem call_bool_own {Q : Value → Shared → Prop} (h : wpAny (model prog w) A.in1.in1 (truthy x) (fun b s' => Q (.bool b) s') E s) : wpAny (model prog w) A (call (.type "bool") [x]) Q E s := by
  refine ks_callType_codesW (Q₁ := fun obj s₁ => ∃ b, obj = .bool b ∧ Q (.bool b) s₁) PySem.F.called_bool (fun {Q'} {E'} hq => wpAny_of_eq (PySem.F.typeCall_bool_1 x) hq) PySem.F.entry_object_init
    (code_bool_new (A := A.in1) (wpAny_mono h (fun b s' hb => ⟨b, rfl, hb⟩) fun _ _ z => z)) fun obj s₁ hobj => ?_
  obtain ⟨b, rfl, hq⟩ := hobj
  have hT : s₁.TypeIs (.bool b) "bool" := PySem.typeIs_bool _ _
  refine ⟨hT, PySem.F.args_object_init_2 _ _, ?_⟩
  exact object_init_meets PySem.F.called_bool.init.lookup PySem.F.called_bool.made PySem.F.newNe_bool prog w A.in1 _ s₁ ⟨hT, rfl, hq⟩
end
end BoX

namespace L2
open PySem PySem.Spec PyProof.Rows
/-- what a class must have for bool(x) -/
structure OwnB (K : PySem.W.Frag) (C f : Addr) : Prop where
  bo : PySem.W.findIn K (.ref C) "__bool__" = some (some (.ref f))
  fn : PySem.W.isFn K (.ref f) = true
/-- what __bool__ promises -/
def spBool (b : Bool) : Sp := fun vs H Q _ => ∃ a, vs = [.ref a] ∧ Q (.bl b) H
section
variable {X : Cx} {n : Nat}
theorem call_boolI {b : Bool} {f : Addr} {fd : FuncData} {ps : List Str} (F : FnOk X.prog X.w X.K X.mg X.base CX0 n f fd ps (spBool b)) (hb : Binds X.K fd ps []) (hr : Room (n + 2) X.A) :
    CallR X (.type "bool") (fun xs H Q => ∃ a C dx fs, xs = [.ref a] ∧ H a = some (.ins C dx fs) ∧ OwnB X.K C f ∧ Q (.bl b) H) := by
  intro pins s σ H xs us Q I r h
  obtain ⟨a, C, dx, fs, rfl, ha, O, q⟩ := h
  obtain ⟨u, rfl, ru⟩ := vals1 r
  cases ru
  obtain ⟨mA, J, _⟩ := ins_get I.hok ha
  obtain ⟨od, J, _⟩ := J.look
  obtain ⟨m, hF⟩ := I.fr
  refine BoX.call_bool_own (PySem.W.truthy_K hF I.ok.mod.kin J O.bo O.fn ?_)
  have hsp : spBool b [.ref a] H (fun v H' => v = .bl b ∧ H' = H) E0 := ⟨a, rfl, rfl, rfl⟩
  have e0 : Env0 X.prog X.w X.K X.mg X.base X.A.in1.in1 X.stack s H := I.env0.in1.in1
  have r2 : Vals [V.ref a] [Value.ref a] := .cons rfl .nil
  refine wpAny_call (codeAny_mono (F.run _ X.stack s H ⟨[.ref a], []⟩ [.ref a] [.ref a] _ E0 hr.in1.in1 e0 (by
    have hl := F.len _ _ _ _ hsp
    have := hb s [.ref a] I.kIn (by simpa using hl)
    simpa using this) r2 hsp) fun q' s' hq => ?_)
  cases q' with
  | error e => exact False.elim hq
  | ok fl =>
    cases fl with
    | ret w =>
      obtain ⟨z, H', I', rz, ez, eH⟩ := I.after hq
      subst ez
      subst eH
      cases rz
      exact ⟨.bl b, H', I', rfl, q⟩
    | next => exact False.elim hq
    | brk => exact False.elim hq
    | cont => exact False.elim hq
/-- a target o.f -/
def gFld (K : PySem.W.Frag) (to : TE) (f : Str) : TG := fun v σ H Q => to σ H fun x H2 => ∃ a C dx fs, x = .ref a ∧ H2 a = some (.ins C dx fs) ∧ Cls K C ∧ NoAttr K C f ∧ fs.length < 1000 ∧ Q σ (upd H2 a (.ins C dx (putF f v fs)))
theorem pg_fld {o : Expr} {f : Str} {pos : Pos} {to : TE} (ho : PE X o to) : PG X (.Attribute o f pos) (gFld X.K to f) := by
  refine ⟨fun pins s σ H v u Q I r h => ?_⟩
  rw [assign_Attribute]
  refine wpAny_bind (wpAny_holding (thn (ho.run pins s σ H _ I h) fun ov s1 ⟨x, H1, I1, r1, a, C, dx, fs, ex, ea, c, n, l, q⟩ => ?_))
  subst ex
  obtain rfl : ov = Value.ref a := r1
  refine wpAny_bind (wpAny_standAt (wpAny_bind (wpAny_holding (setattr_ok I1 ea c n l r fun s2 I2 => ?_))))
  exact wpAny_release ⟨σ, _, I2, q⟩
end
end L2

/-! k45: fixed and _law_d_told. -/
namespace P45
open PySem L2 M45
def top (i : Nat) : Stmt := PySem.Challenge.pw_freedbyhand_k45_papers_of_any_values.main.body.getD i (.Pass ⟨0, 0, 0, 0⟩)
abbrev sFixed : Stmt := top 1
abbrev sAlike : Stmt := top 2
abbrev sToldL : Stmt := top 21

/-! ### data in a heap that grows -/
mutual
theorem Dp.ext {K : PySem.W.Frag} {H H' : Hp} (e : Ext H H') : ∀ (d : PyData) (v : V), Dp K H v d → Dp K H' v d
  | .none, _, h => by cases h; exact .non
  | .bool b, _, h => by cases h; exact .bl b
  | .int i, _, h => by cases h; exact .int i
  | .str x, _, h => by cases h; exact .str x
  | .list ds, _, h => by
    cases h with
    | lst hs ha => exact .lst (hs.ext e) (Dp.extAll e ds _ ha)
  | .tuple ds, _, h => by
    cases h with
    | tup hs ha => exact .tup (hs.ext e) (Dp.extAll e ds _ ha)
  | .dict _, _, h => by cases h
theorem Dp.extAll {K : PySem.W.Frag} {H H' : Hp} (e : Ext H H') : ∀ (ds : List PyData) (vs : List V), DpAll K H vs ds → DpAll K H' vs ds
  | [], _, h => by cases h; exact .nil
  | d :: ds, _, h => by
    cases h with
    | cons h1 h2 => exact .cons (Dp.ext e d _ h1) (Dp.extAll e ds _ h2)
end
theorem dpLen {K : PySem.W.Frag} {H : Hp} : ∀ {vs : List V} {ds : List PyData}, DpAll K H vs ds → vs.length = ds.length
  | _, _, .nil => rfl
  | _, _, .cons _ h => by rw [List.length_cons, List.length_cons, dpLen h]
theorem dpGet {K : PySem.W.Frag} {H : Hp} : ∀ {vs : List V} {ds : List PyData} {i : Nat} {v : V}, DpAll K H vs ds → vs[i]? = some v → ∃ d, ds[i]? = some d ∧ Dp K H v d
  | _, _, _, _, .nil, h => by simp at h
  | _, _, 0, _, .cons h _, e => by
    simp at e
    subst e
    exact ⟨_, rfl, h⟩
  | _, _, i + 1, _, .cons _ h, e => by
    obtain ⟨d, h1, h2⟩ := dpGet (i := i) h (by simpa using e)
    exact ⟨d, by simpa using h1, h2⟩
theorem dpApp {K : PySem.W.Frag} {H : Hp} {v : V} {d : PyData} (h : Dp K H v d) : ∀ {vs : List V} {ds : List PyData}, DpAll K H vs ds → DpAll K H (vs ++ [v]) (ds ++ [d])
  | _, _, .nil => .cons h .nil
  | _, _, .cons a b => .cons a (dpApp h b)
/-- data of a depth, rows of a length that fits -/
inductive Fits : Nat → PyData → Prop
  | non {n : Nat} : Fits n .none
  | bl {n : Nat} (b : Bool) : Fits n (.bool b)
  | int {n : Nat} (i : Int) : Fits n (.int i)
  | str {n : Nat} (x : Str) : Fits n (.str x)
  | list {n : Nat} {xs : List PyData} : xs.length ≤ 1000 → (∀ x ∈ xs, Fits n x) → Fits (n + 1) (.list xs)
  | tuple {n : Nat} {xs : List PyData} : xs.length ≤ 1000 → (∀ x ∈ xs, Fits n x) → Fits (n + 1) (.tuple xs)
theorem Fits.mono {n m : Nat} {d : PyData} (h : Fits n d) (k : n ≤ m) : Fits m d := by
  induction h generalizing m with
  | non => exact .non
  | bl b => exact .bl b
  | int i => exact .int i
  | str x => exact .str x
  | list hl hx ih =>
    obtain ⟨m, rfl⟩ : ∃ j, m = j + 1 := ⟨m - 1, by omega⟩
    exact .list hl fun x hx' => ih x hx' (by omega)
  | tuple hl hx ih =>
    obtain ⟨m, rfl⟩ : ∃ j, m = j + 1 := ⟨m - 1, by omega⟩
    exact .tuple hl fun x hx' => ih x hx' (by omega)
theorem small {n : Nat} (h : n ≤ 1000) : n < sizeLine := Nat.lt_of_le_of_lt h (by decide)
/-- what kind of thing data is -/
def kindOf : PyData → Value
  | .none => .type "NoneType"
  | .bool _ => .type "bool"
  | .int _ => .type "int"
  | .str _ => .type "str"
  | .list _ => .type "list"
  | .tuple _ => .type "tuple"
  | .dict _ => .type "dict"
theorem sqL_ty {K : PySem.W.Frag} {H : Hp} {a : Addr} {xs : List V} (h : SqL K H a xs) : TyX K H (.ref a) (.type "list") := by
  rcases h with (h | ⟨o, h⟩) | ⟨o, its, n, hk, hc, _⟩
  · exact .base (.lst h)
  · exact .base (.frz h)
  · exact .kList hk hc
theorem sqT_ty {K : PySem.W.Frag} {H : Hp} {a : Addr} {xs : List V} (h : SqT K H a xs) : TyX K H (.ref a) (.type "tuple") := by
  rcases h with (h | ⟨o, h⟩) | ⟨o, its, n, hk, hc, _⟩
  · exact .base (.tup h)
  · exact .fTuple h
  · exact .kTuple hk hc
theorem dp_ty {K : PySem.W.Frag} {H : Hp} {v : V} {d : PyData} (h : Dp K H v d) : TyX K H v (kindOf d) := by
  cases h with
  | non => exact .base .non
  | bl b => exact .base (.bl b)
  | int i => exact .base (.int i)
  | str x => exact .base (.str x)
  | lst hs _ => exact sqL_ty hs
  | tup hs _ => exact sqT_ty hs
def isSeq : PyData → Bool
  | .list _ => true
  | .tuple _ => true
  | _ => false
theorem kit_seq {K : PySem.W.Frag} {d : PyData} (h : d.hasDict = false) : PySem.W.kitAny K (kindOf d) [.type "list", .type "tuple"] = some (isSeq d) := by
  cases d with
  | none => exact kitAny_cons (kit_ty (b := "list") (r := false) (by decide +kernel)) (fun _ => kitAny_cons (kit_ty (b := "tuple") (r := false) (by decide +kernel)) (fun _ => rfl) (fun z => by cases z)) (fun z => by cases z)
  | bool b => exact kitAny_cons (kit_ty (b := "list") (r := false) (by decide +kernel)) (fun _ => kitAny_cons (kit_ty (b := "tuple") (r := false) (by decide +kernel)) (fun _ => rfl) (fun z => by cases z)) (fun z => by cases z)
  | int i => exact kitAny_cons (kit_ty (b := "list") (r := false) (by decide +kernel)) (fun _ => kitAny_cons (kit_ty (b := "tuple") (r := false) (by decide +kernel)) (fun _ => rfl) (fun z => by cases z)) (fun z => by cases z)
  | str x => exact kitAny_cons (kit_ty (b := "list") (r := false) (by decide +kernel)) (fun _ => kitAny_cons (kit_ty (b := "tuple") (r := false) (by decide +kernel)) (fun _ => rfl) (fun z => by cases z)) (fun z => by cases z)
  | list xs => exact kitAny_cons (kit_ty (b := "list") (r := true) (by decide +kernel)) (fun z => by cases z) (fun _ => rfl)
  | tuple xs => exact kitAny_cons (kit_ty (b := "list") (r := false) (by decide +kernel)) (fun _ => kitAny_cons (kit_ty (b := "tuple") (r := true) (by decide +kernel)) (fun z => by cases z) (fun _ => rfl)) (fun z => by cases z)
  | dict _ => cases h
theorem Fits.noDict {n : Nat} {d : PyData} (h : Fits n d) : d.hasDict = false := by
  have all : ∀ xs : List PyData, (∀ x ∈ xs, x.hasDict = false) → PyData.hasDictAll xs = false := by
    intro xs
    induction xs with
    | nil => intro _; simp only [PyData.hasDictAll]
    | cons x xs ih =>
      intro h
      simp only [PyData.hasDictAll, h x List.mem_cons_self, ih fun y hy => h y (List.mem_cons_of_mem _ hy), Bool.or_self]
  induction h with
  | non => simp only [PyData.hasDict]
  | bl b => simp only [PyData.hasDict]
  | int i => simp only [PyData.hasDict]
  | str x => simp only [PyData.hasDict]
  | list _ _ ih => simp only [PyData.hasDict]; exact all _ ih
  | tuple _ _ ih => simp only [PyData.hasDict]; exact all _ ih

/-- what fixed and _law_d_told promise of data that deep -/
def spFixed (K : PySem.W.Frag) (n : Nat) : Sp := fun vs H Q _ => ∃ v d, vs = [v] ∧ Dp K H v d ∧ Fits n d ∧ ∀ v' H', Ext H H' → Dp K H' v' (told d) → Q v' H'
/-- built-in names that the program leaves as they are -/
structure Bl (mg : Str → Option Value) : Prop where
  isi : mg "isinstance" = none
  lst : mg "list" = none
  tup : mg "tuple" = none
  len : mg "len" = none
  all : mg "all" = none
  zip : mg "zip" = none
  boo : mg "bool" = none
  int : mg "int" = none
  rng : mg "range" = none
  rep : mg "repr" = none
  enu : mg "enumerate" = none
  sup : mg "super" = none
theorem told_flat {d : PyData} (h : isSeq d = false) : told d = d := by
  cases d <;> first | (cases h; done) | (simp only [told])
/-- tuples stay -/
def KeepT (H H' : Hp) : Prop := ∀ a xs, Rd H a (.tup xs) → Rd H' a (.tup xs)
theorem KeepT.of {H H' : Hp} (e : Ext H H') : KeepT H H' := fun a xs h => by
  rcases h with h | ⟨o, h⟩
  · exact .inl (e _ _ h)
  · exact .inr ⟨o, e _ _ h⟩
theorem KeepT.trans {H H1 H2 : Hp} (a : KeepT H H1) (b : KeepT H1 H2) : KeepT H H2 := fun c xs h => b c xs (a c xs h)
theorem KeepT.lst {H : Hp} {D : Addr} {acc : List V} {o : HO} (h : H D = some (.lst acc)) : KeepT H (upd H D o) := fun a xs r => by
  have ne : a ≠ D := fun z => by
    subst z
    rcases r with r | ⟨o, r⟩ <;> (rw [h] at r; cases r)
  rcases r with r | ⟨o, r⟩
  · exact .inl (by rw [upd_ne ne]; exact r)
  · exact .inr ⟨o, by rw [upd_ne ne]; exact r⟩
theorem KeepT.ins {H : Hp} {D C dx : Addr} {fs : List (Str × V)} {o : HO} (h : H D = some (.ins C dx fs)) : KeepT H (upd H D o) := fun a xs r => by
  have ne : a ≠ D := fun z => by
    subst z
    rcases r with r | ⟨o, r⟩ <;> (rw [h] at r; cases r)
  rcases r with r | ⟨o, r⟩
  · exact .inl (by rw [upd_ne ne]; exact r)
  · exact .inr ⟨o, by rw [upd_ne ne]; exact r⟩
theorem SqT.keep {K : PySem.W.Frag} {H H' : Hp} {a : Addr} {xs : List V} (e : KeepT H H') (h : SqT K H a xs) : SqT K H' a xs := h.elim (fun h => .inl (e _ _ h)) .inr
mutual
theorem Dp.keepT {K : PySem.W.Frag} {H H' : Hp} (e : KeepT H H') : ∀ (d : PyData) (v : V), Fl d → Dp K H v d → Dp K H' v d
  | .none, _, _, h => by cases h; exact .non
  | .bool b, _, _, h => by cases h; exact .bl b
  | .int i, _, _, h => by cases h; exact .int i
  | .str x, _, _, h => by cases h; exact .str x
  | .list ds, _, f, _ => by cases f
  | .tuple ds, _, f, h => by
    cases h with
    | tup hs ha =>
      cases f with
      | tuple hf => exact .tup (SqT.keep e hs) (Dp.keepTAll e ds _ hf ha)
  | .dict _, _, _, h => by cases h
theorem Dp.keepTAll {K : PySem.W.Frag} {H H' : Hp} (e : KeepT H H') : ∀ (ds : List PyData) (vs : List V), (∀ d ∈ ds, Fl d) → DpAll K H vs ds → DpAll K H' vs ds
  | [], _, _, h => by cases h; exact .nil
  | d :: ds, _, f, h => by
    cases h with
    | cons h1 h2 => exact .cons (Dp.keepT e d _ (f d List.mem_cons_self) h1) (Dp.keepTAll e ds _ (fun x hx => f x (List.mem_cons_of_mem _ hx)) h2)
end
theorem Fits.toldFl {n : Nat} {d : PyData} (h : Fits n d) : Fl (told d) := by
  induction h with
  | non => simp only [told]; exact .none
  | bl b => simp only [told]; exact .bool b
  | int i => simp only [told]; exact .int i
  | str x => simp only [told]; exact .str x
  | list _ _ ih =>
    rw [told_list]
    refine .tuple fun x hx => ?_
    obtain ⟨y, hy, rfl⟩ := List.mem_map.mp hx
    exact ih y hy
  | tuple _ _ ih =>
    rw [told_tuple]
    refine .tuple fun x hx => ?_
    obtain ⟨y, hy, rfl⟩ := List.mem_map.mp hx
    exact ih y hy
/-- what a comprehension that tells item by item keeps: D the list that is made -/
def Telling (K : PySem.W.Frag) (H1 : Hp) (D : Addr) (ds : List PyData) (i : Nat) (H2 : Hp) : Prop := ∃ ys, H2 D = some (.lst ys) ∧ DpAll K H2 ys ((ds.take i).map told) ∧ Ext H1 H2
theorem Telling.start {K : PySem.W.Frag} {H1 : Hp} {D : Addr} {ds : List PyData} (h : H1 D = none) : Telling K H1 D ds 0 (upd H1 D (.lst [])) := ⟨[], upd_same, .nil, Ext.upd h⟩
theorem ext_mut {H H' : Hp} {D : Addr} {o : HO} (e : Ext H H') (h : H D = none) : Ext H (upd H' D o) := fun a u ha => by
  rw [upd_ne (ne_of_none ha h)]
  exact e a u ha
theorem Telling.turn {K : PySem.W.Frag} {H1 H2 H3 : Hp} {D : Addr} {ds : List PyData} {i n : Nat} {d : PyData} {v' : V} (h : Telling K H1 D ds i H2) (hD : H1 D = none) (hf : ∀ d ∈ ds, Fits n d) (hd : ds[i]? = some d) (hl : ds.length ≤ 1000)
    (e : Ext H2 H3) (hv : Dp K H3 v' (told d)) : ∃ acc, H3 D = some (.lst acc) ∧ acc.length < sizeLine ∧ Telling K H1 D ds (i + 1) (upd H3 D (.lst (acc ++ [v']))) := by
  obtain ⟨ys, h1, h2, h3⟩ := h
  have hi : i < ds.length := (List.getElem?_eq_some_iff.mp hd).1
  have hlen : ys.length = i := by
    have := dpLen h2
    rw [List.length_map, List.length_take] at this
    omega
  have h4 : H3 D = some (.lst ys) := e _ _ h1
  refine ⟨ys, h4, small (by omega), ys ++ [v'], upd_same, ?_, ext_mut (h3.trans e) hD⟩
  have q : (ds.take (i + 1)).map told = (ds.take i).map told ++ [told d] := by
    rw [List.take_add_one, hd]
    simp
  rw [q]
  have fl : ∀ x ∈ (ds.take i).map told ++ [told d], Fl x := by
    intro x hx
    rcases List.mem_append.mp hx with hx | hx
    · obtain ⟨y, hy, rfl⟩ := List.mem_map.mp hx
      exact (hf y (List.mem_of_mem_take hy)).toldFl
    · have : x = told d := by simpa using hx
      subst this
      exact (hf d (List.mem_of_getElem? hd)).toldFl
  exact Dp.keepTAll (KeepT.lst h4) _ _ fl (dpApp hv (Dp.extAll e _ _ h2))
theorem Telling.done {K : PySem.W.Frag} {H1 H2 : Hp} {D l : Addr} {ds : List PyData} {n i : Nat} (h : Telling K H1 D ds i H2) (hi : ds.length ≤ i) (hl : H2 l = none) :
    ∃ ys, H2 D = some (.lst ys) ∧ Ext H1 (upd H2 l (.tup ys)) ∧ Dp K (upd H2 l (.tup ys)) (.ref l) (.tuple (ds.map told)) := by
  obtain ⟨ys, h1, h2, h3⟩ := h
  rw [List.take_of_length_le hi] at h2
  exact ⟨ys, h1, h3.trans (Ext.upd hl), .tup (SqT.of upd_same) (Dp.extAll (Ext.upd hl) _ _ h2)⟩
section
variable {P : Program} {w : World} {K : PySem.W.Frag} {mg : Str → Option Value} {base : Heap}
theorem scFx : FnScope ["value", "part"] ["value"] (defScope sFixed) := ⟨rfl, rfl, rfl, by decide +kernel, rfl, by decide +kernel, by decide +kernel⟩
theorem ok_fixed {f : Addr} {fd : FuncData} (F : Fun K "fixed" "fixed" sFixed f fd) (B : Bl mg) (b : Binds K fd ["value"] []) (hg : mg "fixed" = some (.ref f)) :
    ∀ n, FnOk P w K mg base CX0 (n + 1) f fd ["value"] (spFixed K n) := by
  intro n
  induction n with
  | zero =>
    refine F.ok scFx (fun vs H Q E h => ?_) (fun cdv A outer s H vs Q E hr h => ?_)
    · obtain ⟨v, d, rfl, _⟩ := h
      rfl
    · obtain ⟨v, d, rfl, hd, hf, k⟩ := h
      refine ⟨_, pss_cons (ps_if (pt_val (pe_callB call_isiT (by rfl) B.isi (by decide +kernel) (pa_cons (pv 0) (pa_cons (pe_tup (pa_cons (pe_bltn (v := .ty "list") (by rfl) B.lst (by decide +kernel) rfl)
        (pa_cons (pe_bltn (v := .ty "tuple") (by rfl) B.tup (by decide +kernel) rfl) pa_nil))) pa_nil)))) pss_never pss_nil) (pss_one (ps_ret (pv 0))), ?_⟩
      refine ⟨_, rfl, (by show 2 ≤ sizeLine; decide), fun p hp => ⟨v, p, _, _, _, isSeq d, rfl, upd_same, .cons (.ty _) (.cons (.ty _) .nil), dp_ty (Dp.ext (Ext.upd hp) d v hd), kit_seq hf.noDict, _, rfl, ?_⟩⟩
      have e : isSeq d = false := by cases hf <;> rfl
      rw [e]
      refine iteF ⟨v, rfl, k v _ (Ext.upd hp) ?_⟩
      rw [told_flat e]
      exact Dp.ext (Ext.upd hp) d v hd
  | succ n ih =>
    refine F.ok scFx (fun vs H Q E h => ?_) (fun cdv A outer s H vs Q E hr h => ?_)
    · obtain ⟨v, d, rfl, _⟩ := h
      rfl
    · obtain ⟨v, d, rfl, hd, hf, k⟩ := h
      cases e : isSeq d with
      | false =>
        refine ⟨_, pss_cons (ps_if (pt_val (pe_callB call_isiT (by rfl) B.isi (by decide +kernel) (pa_cons (pv 0) (pa_cons (pe_tup (pa_cons (pe_bltn (v := .ty "list") (by rfl) B.lst (by decide +kernel) rfl)
          (pa_cons (pe_bltn (v := .ty "tuple") (by rfl) B.tup (by decide +kernel) rfl) pa_nil))) pa_nil)))) pss_never pss_nil) (pss_one (ps_ret (pv 0))), ?_⟩
        refine ⟨_, rfl, (by show 2 ≤ sizeLine; decide), fun p hp => ⟨v, p, _, _, _, isSeq d, rfl, upd_same, .cons (.ty _) (.cons (.ty _) .nil), dp_ty (Dp.ext (Ext.upd hp) d v hd), kit_seq hf.noDict, _, rfl, ?_⟩⟩
        rw [e]
        refine iteF ⟨v, rfl, k v _ (Ext.upd hp) ?_⟩
        rw [told_flat e]
        exact Dp.ext (Ext.upd hp) d v hd
      | true =>
        cases hd with
        | @lst a xs ds hs ha =>
          cases hf with
          | list hl hx =>
            refine ⟨_, pss_cons (ps_if (pt_val (pe_callB call_isiT (by rfl) B.isi (by decide +kernel) (pa_cons (pv 0) (pa_cons (pe_tup (pa_cons (pe_bltn (v := .ty "list") (by rfl) B.lst (by decide +kernel) rfl)
              (pa_cons (pe_bltn (v := .ty "tuple") (by rfl) B.tup (by decide +kernel) rfl) pa_nil))) pa_nil))))
              (pss_one (ps_ret (pe_callTy call_tuple_of (by rfl) B.tup (by decide +kernel) (pa_cons (pe_lc (own := [("part", 1)]) (g := gName 1) (tt := tYes) rfl scFx.nd (pi_list (pv 0))
                (blkOk_by (N := ["value", "part"]) (sc := defScope sFixed) (by decide +kernel)) (fun _ _ _ _ _ => pg_name (i := 1) scFx.nd rfl (Or.inl rfl)) (fun _ _ _ _ _ => pts_nil)
                (fun _ _ _ _ _ => pe_call ih hr rfl hg F.kp b .nil pass0 (pa_cons (pv 1) pa_nil))) pa_nil)))) pss_nil) pss_never, ?_⟩
            refine ⟨_, rfl, (by show 2 ≤ sizeLine; decide), fun p hp => ⟨_, p, _, _, _, true, rfl, upd_same, .cons (.ty _) (.cons (.ty _) .nil), sqL_ty (hs.ext (Ext.upd hp)), kit_seq (d := .list ds) (Fits.list hl hx).noDict, _, rfl, iteT ?_⟩⟩
            have hs1 := hs.ext (Ext.upd (o := .tup [.ty "list", .ty "tuple"]) hp)
            have ha1 := Dp.extAll (Ext.upd (o := .tup [.ty "list", .ty "tuple"]) hp) ds xs ha
            refine ⟨_, rfl, a, rfl, ⟨_, hs1⟩, fun D hD => lc_list (K := K) (a := a) (xs := xs) (Telling K _ D ds) (Telling.start hD) (fun i H2 _ q => hs1.ext q.choose_spec.2.2) ?_ ?_⟩
            · intro i y H2 hi q
              obtain ⟨d, hd1, hd2⟩ := dpGet ha1 hi
              obtain ⟨_, _, _, q3⟩ := id q
              exact ⟨rfl, _, rfl, y, d, rfl, Dp.ext q3 d y hd2, hx d (List.mem_of_getElem? hd1), fun v' H3 e3 hv => q.turn hD hx hd1 hl e3 hv⟩
            · intro H2 q
              obtain ⟨ys, z1, _, _⟩ := id q
              refine ⟨D, ys, rfl, .inl ⟨SqL.of z1, fun l hl' => ?_⟩⟩
              obtain ⟨ys', z1', z2, z3⟩ := q.done (n := n) (Nat.le_of_eq (dpLen ha).symm) hl'
              rw [z1] at z1'
              cases z1'
              exact k _ _ ((Ext.upd hp).trans z2) (by rw [told_list]; exact z3)
        | @tup a xs ds hs ha =>
          cases hf with
          | tuple hl hx =>
            refine ⟨_, pss_cons (ps_if (pt_val (pe_callB call_isiT (by rfl) B.isi (by decide +kernel) (pa_cons (pv 0) (pa_cons (pe_tup (pa_cons (pe_bltn (v := .ty "list") (by rfl) B.lst (by decide +kernel) rfl)
              (pa_cons (pe_bltn (v := .ty "tuple") (by rfl) B.tup (by decide +kernel) rfl) pa_nil))) pa_nil))))
              (pss_one (ps_ret (pe_callTy call_tuple_of (by rfl) B.tup (by decide +kernel) (pa_cons (pe_lc (own := [("part", 1)]) (g := gName 1) (tt := tYes) rfl scFx.nd (pi_tup (pv 0))
                (blkOk_by (N := ["value", "part"]) (sc := defScope sFixed) (by decide +kernel)) (fun _ _ _ _ _ => pg_name (i := 1) scFx.nd rfl (Or.inl rfl)) (fun _ _ _ _ _ => pts_nil)
                (fun _ _ _ _ _ => pe_call ih hr rfl hg F.kp b .nil pass0 (pa_cons (pv 1) pa_nil))) pa_nil)))) pss_nil) pss_never, ?_⟩
            refine ⟨_, rfl, (by show 2 ≤ sizeLine; decide), fun p hp => ⟨_, p, _, _, _, true, rfl, upd_same, .cons (.ty _) (.cons (.ty _) .nil), sqT_ty (hs.ext (Ext.upd hp)), kit_seq (d := .tuple ds) (Fits.tuple hl hx).noDict, _, rfl, iteT ?_⟩⟩
            have hs1 := hs.ext (Ext.upd (o := .tup [.ty "list", .ty "tuple"]) hp)
            have ha1 := Dp.extAll (Ext.upd (o := .tup [.ty "list", .ty "tuple"]) hp) ds xs ha
            refine ⟨_, rfl, a, rfl, ⟨_, hs1⟩, fun D hD => lc_tup (K := K) (a := a) (xs := xs) (Telling K _ D ds) (Telling.start hD) (fun i H2 _ q => hs1.ext q.choose_spec.2.2) ?_ ?_⟩
            · intro i y H2 hi q
              obtain ⟨d, hd1, hd2⟩ := dpGet ha1 hi
              obtain ⟨_, _, _, q3⟩ := id q
              exact ⟨rfl, _, rfl, y, d, rfl, Dp.ext q3 d y hd2, hx d (List.mem_of_getElem? hd1), fun v' H3 e3 hv => q.turn hD hx hd1 hl e3 hv⟩
            · intro H2 q
              obtain ⟨ys, z1, _, _⟩ := id q
              refine ⟨D, ys, rfl, .inl ⟨SqL.of z1, fun l hl' => ?_⟩⟩
              obtain ⟨ys', z1', z2, z3⟩ := q.done (n := n) (Nat.le_of_eq (dpLen ha).symm) hl'
              rw [z1] at z1'
              cases z1'
              exact k _ _ ((Ext.upd hp).trans z2) (by rw [told_tuple]; exact z3)
        | _ => cases e
end
end P45

/-! k45: _law_d_told, are_alike. -/
namespace P45
open PySem L2 M45
theorem pe_never {X : Cx} {e : Expr} : PE X e (fun _ _ _ => False) := ⟨fun _ _ _ _ _ _ h => h.elim⟩
/-- over two tuples that the block leaves as they are, the items in pairs -/
theorem lc_zipT {K : PySem.W.Frag} {a b : Addr} {xs ys : List V} {g : TG} {tt : TT} {te : TE} {vs : List Nat} {σ : L2.St} {H1 : Hp} {D : Addr} {Qd : Hp → Prop} (hl : xs.length = ys.length) (Pv : Nat → Hp → Prop) (h0 : Pv 0 (upd H1 D (.lst [])))
    (hq : ∀ i H, i ≤ xs.length → Pv i H → SqT K H a xs ∧ SqT K H b ys)
    (hs : ∀ i x y H T, xs[i]? = some x → ys[i]? = some y → Pv i H → H T = none → g (.ref T) (wipe σ vs) (upd H T (.tup [x, y])) fun σ2 H2 => wipe σ2 vs = wipe σ vs ∧ tt σ2 H2 fun b H3 =>
      if b = true then te σ2 H3 fun y H4 => ∃ acc, H4 D = some (.lst acc) ∧ acc.length < sizeLine ∧ Pv (i + 1) (upd H4 D (.lst (acc ++ [y]))) else Pv (i + 1) H3) (hd : ∀ H, Pv xs.length H → Qd H) :
    ∃ W : Nat → Nat → Hp → Prop, (∃ m, W 0 m (upd H1 D (.lst []))) ∧ ∀ i m H, W i m H →
      ((RZ.ItzT K a b).stop i H ∧ Qd H) ∨ ((RZ.ItzT K a b).go i H ∧ ∃ Nx : Hp → Prop, (∀ H', Nx H' → ∃ m', m' < m ∧ W (i + 1) m' H') ∧ ∀ x H', (RZ.ItzT K a b).yld i H x H' → g x (wipe σ vs) H' fun σ2 H2 => wipe σ2 vs = wipe σ vs ∧ tt σ2 H2 fun b H3 =>
        if b = true then te σ2 H3 fun y H4 => ∃ acc, H4 D = some (.lst acc) ∧ acc.length < sizeLine ∧ Nx (upd H4 D (.lst (acc ++ [y]))) else Nx H3) := by
  refine ⟨fun i m H => m = xs.length - i ∧ i ≤ xs.length ∧ Pv i H, ⟨xs.length, by simp, Nat.zero_le _, h0⟩, ?_⟩
  rintro i m H ⟨rfl, hi, p⟩
  obtain ⟨q1, q2⟩ := hq i H hi p
  by_cases hlt : i < xs.length
  · have hlt2 : i < ys.length := by omega
    refine .inr ⟨⟨xs, ys, xs[i], ys[i], q1, q2, by simp [hlt], by simp [hlt2]⟩, Pv (i + 1), fun H' p' => ⟨xs.length - (i + 1), by omega, rfl, hlt, p'⟩, fun z H' h => ?_⟩
    obtain ⟨T, x, y, rfl, hT, rfl, hx, hy⟩ := h
    exact hs i x y H T (hx xs q1) (hy ys q2) p hT
  · have e : i = xs.length := by omega
    subst e
    exact .inl ⟨⟨xs, ys, q1, q2, .inl (Nat.le_refl _)⟩, hd H p⟩
theorem Fits.depth {n : Nat} {d : PyData} (h : Fits n d) : d.depth ≤ n := by
  have all : ∀ (n : Nat) (xs : List PyData), (∀ x ∈ xs, x.depth ≤ n) → PyData.depthAll xs ≤ n := by
    intro n xs
    induction xs with
    | nil => intro _; simp only [PyData.depthAll]; exact Nat.zero_le _
    | cons x xs ih =>
      intro h
      simp only [PyData.depthAll]
      exact Nat.max_le.mpr ⟨h x List.mem_cons_self, ih fun y hy => h y (List.mem_cons_of_mem _ hy)⟩
  induction h with
  | non => simp only [PyData.depth]; exact Nat.zero_le _
  | bl b => simp only [PyData.depth]; exact Nat.zero_le _
  | int i => simp only [PyData.depth]; exact Nat.zero_le _
  | str x => simp only [PyData.depth]; exact Nat.zero_le _
  | list _ _ ih => simp only [PyData.depth]; exact Nat.succ_le_succ (all _ _ ih)
  | tuple _ _ ih => simp only [PyData.depth]; exact Nat.succ_le_succ (all _ _ ih)
theorem shaped_of {n : Nat} {d : PyData} (h : Fits n d) (hn : n ≤ 60) (hc : d.canLay0 = true) : SeqAt.shaped d = true := by
  unfold SeqAt.shaped
  rw [hc, decide_eq_true (by have := h.depth; omega)]
  rfl
theorem canLay_mem : ∀ {xs : List PyData}, PyData.canLayAll0 xs = true → ∀ x ∈ xs, x.canLay0 = true
  | [], _, _, h => by cases h
  | x :: xs, hc, y, h => by
    simp only [PyData.canLayAll0, Bool.and_eq_true] at hc
    rcases List.mem_cons.mp h with rfl | h
    · exact hc.1
    · exact canLay_mem hc.2 y h
section
variable {P : Program} {w : World} {K : PySem.W.Frag} {mg : Str → Option Value} {base : Heap}
theorem scTd : FnScope ["value", "part"] ["value"] (defScope sToldL) := ⟨rfl, rfl, rfl, by decide +kernel, rfl, by decide +kernel, by decide +kernel⟩
theorem ok_told {f : Addr} {fd : FuncData} (F : Fun K "_law_d_told" "_law_d_told" sToldL f fd) (B : Bl mg) (b : Binds K fd ["value"] []) (hg : mg "_law_d_told" = some (.ref f)) :
    ∀ n, FnOk P w K mg base CX0 (n + 1) f fd ["value"] (spFixed K n) := by
  intro n
  induction n with
  | zero =>
    refine F.ok scTd (fun vs H Q E h => ?_) (fun cdv A outer s H vs Q E hr h => ?_)
    · obtain ⟨v, d, rfl, _⟩ := h
      rfl
    · obtain ⟨v, d, rfl, hd, hf, k⟩ := h
      refine ⟨_, pss_one (ps_ret (pe_ifExp (pt_val (pe_callB call_isiT (by rfl) B.isi (by decide +kernel) (pa_cons (pv 0) (pa_cons (pe_tup (pa_cons (pe_bltn (v := .ty "list") (by rfl) B.lst (by decide +kernel) rfl)
        (pa_cons (pe_bltn (v := .ty "tuple") (by rfl) B.tup (by decide +kernel) rfl) pa_nil))) pa_nil)))) pe_never (pv 0))), ?_⟩
      refine ⟨_, rfl, (by show 2 ≤ sizeLine; decide), fun p hp => ⟨v, p, _, _, _, isSeq d, rfl, upd_same, .cons (.ty _) (.cons (.ty _) .nil), dp_ty (Dp.ext (Ext.upd hp) d v hd), kit_seq hf.noDict, _, rfl, ?_⟩⟩
      have e : isSeq d = false := by cases hf <;> rfl
      rw [e]
      refine iteF ⟨v, rfl, k v _ (Ext.upd hp) ?_⟩
      rw [told_flat e]
      exact Dp.ext (Ext.upd hp) d v hd
  | succ n ih =>
    refine F.ok scTd (fun vs H Q E h => ?_) (fun cdv A outer s H vs Q E hr h => ?_)
    · obtain ⟨v, d, rfl, _⟩ := h
      rfl
    · obtain ⟨v, d, rfl, hd, hf, k⟩ := h
      cases e : isSeq d with
      | false =>
        refine ⟨_, pss_one (ps_ret (pe_ifExp (pt_val (pe_callB call_isiT (by rfl) B.isi (by decide +kernel) (pa_cons (pv 0) (pa_cons (pe_tup (pa_cons (pe_bltn (v := .ty "list") (by rfl) B.lst (by decide +kernel) rfl)
          (pa_cons (pe_bltn (v := .ty "tuple") (by rfl) B.tup (by decide +kernel) rfl) pa_nil))) pa_nil)))) pe_never (pv 0))), ?_⟩
        refine ⟨_, rfl, (by show 2 ≤ sizeLine; decide), fun p hp => ⟨v, p, _, _, _, isSeq d, rfl, upd_same, .cons (.ty _) (.cons (.ty _) .nil), dp_ty (Dp.ext (Ext.upd hp) d v hd), kit_seq hf.noDict, _, rfl, ?_⟩⟩
        rw [e]
        refine iteF ⟨v, rfl, k v _ (Ext.upd hp) ?_⟩
        rw [told_flat e]
        exact Dp.ext (Ext.upd hp) d v hd
      | true =>
        cases hd with
        | @lst a xs ds hs ha =>
          cases hf with
          | list hl hx =>
            refine ⟨_, pss_one (ps_ret (pe_ifExp (pt_val (pe_callB call_isiT (by rfl) B.isi (by decide +kernel) (pa_cons (pv 0) (pa_cons (pe_tup (pa_cons (pe_bltn (v := .ty "list") (by rfl) B.lst (by decide +kernel) rfl)
              (pa_cons (pe_bltn (v := .ty "tuple") (by rfl) B.tup (by decide +kernel) rfl) pa_nil))) pa_nil))))
              (pe_callTy call_tuple_of (by rfl) B.tup (by decide +kernel) (pa_cons (pe_lc (own := [("part", 1)]) (g := gName 1) (tt := tYes) rfl scTd.nd (pi_list (pv 0))
                (blkOk_by (N := ["value", "part"]) (sc := defScope sToldL) (by decide +kernel)) (fun _ _ _ _ _ => pg_name (i := 1) scTd.nd rfl (Or.inl rfl)) (fun _ _ _ _ _ => pts_nil)
                (fun _ _ _ _ _ => pe_call ih hr rfl hg F.kp b .nil pass0 (pa_cons (pv 1) pa_nil))) pa_nil)) pe_never)), ?_⟩
            refine ⟨_, rfl, (by show 2 ≤ sizeLine; decide), fun p hp => ⟨_, p, _, _, _, true, rfl, upd_same, .cons (.ty _) (.cons (.ty _) .nil), sqL_ty (hs.ext (Ext.upd hp)), kit_seq (d := .list ds) (Fits.list hl hx).noDict, _, rfl, iteT ?_⟩⟩
            have hs1 := hs.ext (Ext.upd (o := .tup [.ty "list", .ty "tuple"]) hp)
            have ha1 := Dp.extAll (Ext.upd (o := .tup [.ty "list", .ty "tuple"]) hp) ds xs ha
            refine ⟨_, rfl, a, rfl, ⟨_, hs1⟩, fun D hD => lc_list (K := K) (a := a) (xs := xs) (Telling K _ D ds) (Telling.start hD) (fun i H2 _ q => hs1.ext q.choose_spec.2.2) ?_ ?_⟩
            · intro i y H2 hi q
              obtain ⟨d, hd1, hd2⟩ := dpGet ha1 hi
              obtain ⟨_, _, _, q3⟩ := id q
              exact ⟨rfl, _, rfl, y, d, rfl, Dp.ext q3 d y hd2, hx d (List.mem_of_getElem? hd1), fun v' H3 e3 hv => q.turn hD hx hd1 hl e3 hv⟩
            · intro H2 q
              obtain ⟨ys, z1, _, _⟩ := id q
              refine ⟨D, ys, rfl, .inl ⟨SqL.of z1, fun l hl' => ?_⟩⟩
              obtain ⟨ys', z1', z2, z3⟩ := q.done (n := n) (Nat.le_of_eq (dpLen ha).symm) hl'
              rw [z1] at z1'
              cases z1'
              exact k _ _ ((Ext.upd hp).trans z2) (by rw [told_list]; exact z3)
        | @tup a xs ds hs ha =>
          cases hf with
          | tuple hl hx =>
            refine ⟨_, pss_one (ps_ret (pe_ifExp (pt_val (pe_callB call_isiT (by rfl) B.isi (by decide +kernel) (pa_cons (pv 0) (pa_cons (pe_tup (pa_cons (pe_bltn (v := .ty "list") (by rfl) B.lst (by decide +kernel) rfl)
              (pa_cons (pe_bltn (v := .ty "tuple") (by rfl) B.tup (by decide +kernel) rfl) pa_nil))) pa_nil))))
              (pe_callTy call_tuple_of (by rfl) B.tup (by decide +kernel) (pa_cons (pe_lc (own := [("part", 1)]) (g := gName 1) (tt := tYes) rfl scTd.nd (pi_tup (pv 0))
                (blkOk_by (N := ["value", "part"]) (sc := defScope sToldL) (by decide +kernel)) (fun _ _ _ _ _ => pg_name (i := 1) scTd.nd rfl (Or.inl rfl)) (fun _ _ _ _ _ => pts_nil)
                (fun _ _ _ _ _ => pe_call ih hr rfl hg F.kp b .nil pass0 (pa_cons (pv 1) pa_nil))) pa_nil)) pe_never)), ?_⟩
            refine ⟨_, rfl, (by show 2 ≤ sizeLine; decide), fun p hp => ⟨_, p, _, _, _, true, rfl, upd_same, .cons (.ty _) (.cons (.ty _) .nil), sqT_ty (hs.ext (Ext.upd hp)), kit_seq (d := .tuple ds) (Fits.tuple hl hx).noDict, _, rfl, iteT ?_⟩⟩
            have hs1 := hs.ext (Ext.upd (o := .tup [.ty "list", .ty "tuple"]) hp)
            have ha1 := Dp.extAll (Ext.upd (o := .tup [.ty "list", .ty "tuple"]) hp) ds xs ha
            refine ⟨_, rfl, a, rfl, ⟨_, hs1⟩, fun D hD => lc_tup (K := K) (a := a) (xs := xs) (Telling K _ D ds) (Telling.start hD) (fun i H2 _ q => hs1.ext q.choose_spec.2.2) ?_ ?_⟩
            · intro i y H2 hi q
              obtain ⟨d, hd1, hd2⟩ := dpGet ha1 hi
              obtain ⟨_, _, _, q3⟩ := id q
              exact ⟨rfl, _, rfl, y, d, rfl, Dp.ext q3 d y hd2, hx d (List.mem_of_getElem? hd1), fun v' H3 e3 hv => q.turn hD hx hd1 hl e3 hv⟩
            · intro H2 q
              obtain ⟨ys, z1, _, _⟩ := id q
              refine ⟨D, ys, rfl, .inl ⟨SqL.of z1, fun l hl' => ?_⟩⟩
              obtain ⟨ys', z1', z2, z3⟩ := q.done (n := n) (Nat.le_of_eq (dpLen ha).symm) hl'
              rw [z1] at z1'
              cases z1'
              exact k _ _ ((Ext.upd hp).trans z2) (by rw [told_tuple]; exact z3)
        | _ => cases e

/-! ### are_alike -/
theorem scAl : FnScope ["one", "other", "part", "its"] ["one", "other"] (defScope sAlike) := ⟨rfl, rfl, rfl, by decide +kernel, rfl, by decide +kernel, by decide +kernel⟩
def spAlike (K : PySem.W.Frag) (n : Nat) : Sp := fun vs H Q _ => ∃ x y d e, vs = [x, y] ∧ Dp K H x d ∧ Dp K H y e ∧ Fits n d ∧ Fits n e ∧ Fl d ∧ Fl e ∧ d.canLay0 = true ∧ e.canLay0 = true ∧ ∀ H', Ext H H' → Q (.bl (alike d e)) H'
def isTup : PyData → Bool
  | .tuple _ => true
  | _ => false
theorem kit_tup {K : PySem.W.Frag} {d : PyData} (h : d.hasDict = false) : PySem.W.kitOne K (kindOf d) (.type "tuple") = some (isTup d) := by
  cases d with
  | dict _ => cases h
  | _ => exact kit_ty (by first | (show kitB _ _ = some true; decide +kernel) | (show kitB _ _ = some false; decide +kernel))
theorem kit_bool {K : PySem.W.Frag} {d : PyData} (h : d.hasDict = false) : PySem.W.kitOne K (kindOf d) (.type "bool") = some (isB d) := by
  cases d with
  | dict _ => cases h
  | _ => exact kit_ty (by first | (show kitB _ _ = some true; decide +kernel) | (show kitB _ _ = some false; decide +kernel))
theorem alikeAll_eq : ∀ (xs ys : List PyData), alikeAll xs ys = (List.zipWith alike xs ys).all id
  | [], [] => by simp [alikeAll]
  | [], _ :: _ => by simp [alikeAll]
  | _ :: _, [] => by simp [alikeAll]
  | x :: xs, y :: ys => by rw [alikeAll_cons, List.zipWith_cons_cons, List.all_cons, alikeAll_eq xs ys]; rfl
/-- the way of two things that aren't both tuples -/
theorem alike_flat_way {f : Addr} {n : Nat} (hn : n ≤ 60) (B : Bl mg) {cdv : Value} {A : Around} {outer : List Env} {s : Shared} {H : Hp} {Q : VK} {E : XK} {x y : V} {d e : PyData}
    (hr : Room 0 (cxOf CX0 P w K mg base ["one", "other", "part", "its"] "are_alike" (defScope sAlike) f cdv A outer s H E).A) (hd : Dp K H x d) (he : Dp K H y e) (fd' : Fits n d) (fe : Fits n e) (cd : d.canLay0 = true) (ce : e.canLay0 = true)
    (hne : (isTup d && isTup e) = false) (k : ∀ H', Ext H H' → Q (.bl (alike d e)) H') :
    ∃ t, PSs (cxOf CX0 P w K mg base ["one", "other", "part", "its"] "are_alike" (defScope sAlike) f cdv A outer s H E).nox (defBody sAlike) t ∧ t { nx := fun _ H' => Q .non H', rt := Q } (start ["one", "other", "part", "its"] [x, y]) H := by
  have ea : alike d e = (if isB d != isB e then false else PyData.eqv d e) := alike_flat fun ⟨xs, h1⟩ ⟨ys, h2⟩ => by
    subst h1
    subst h2
    cases hne
  refine ⟨_, pss_cons (ps_if (PW.pt (pw_and (pt_val (pe_callB call_isi (by rfl) B.isi (by decide +kernel) (pa_cons (pv 0) (pa_cons (pe_bltn (v := .ty "tuple") (by rfl) B.tup (by decide +kernel) rfl) pa_nil))))
      (pw_and1 (pt_val (pe_callB call_isi (by rfl) B.isi (by decide +kernel) (pa_cons (pv 1) (pa_cons (pe_bltn (v := .ty "tuple") (by rfl) B.tup (by decide +kernel) rfl) pa_nil))))))) pss_never pss_nil)
    (pss_cons (ps_if (pt_cmpR op_ne (pe_callB call_isi (by rfl) B.isi (by decide +kernel) (pa_cons (pv 0) (pa_cons (pe_bltn (v := .ty "bool") (by rfl) B.boo (by decide +kernel) rfl) pa_nil)))
      (pe_callB call_isi (by rfl) B.isi (by decide +kernel) (pa_cons (pv 1) (pa_cons (pe_bltn (v := .ty "bool") (by rfl) B.boo (by decide +kernel) rfl) pa_nil))) (nomark _)) (pss_one (ps_ret pe_bl)) pss_nil)
    (pss_one (ps_ret (pe_callTy call_bool1 (by rfl) B.boo (by decide +kernel) (pa_cons (pe_cmpR (op_eqD hr.units) (pv 0) (pv 1) (nomark _)) pa_nil))))), ?_⟩
  refine ⟨_, rfl, x, .ty "tuple", kindOf d, _, isTup d, rfl, .ty _, dp_ty hd, kit_tup fd'.noDict, _, rfl, ?_⟩
  cases h1 : isTup d with
  | true =>
    rw [h1, Bool.true_and] at hne
    refine iteT ⟨_, rfl, y, .ty "tuple", kindOf e, _, isTup e, rfl, .ty _, dp_ty he, kit_tup fe.noDict, _, rfl, ?_⟩
    rw [hne]
    refine iteF ⟨_, rfl, x, .ty "bool", kindOf d, _, isB d, rfl, .ty _, dp_ty hd, kit_bool fd'.noDict, _, rfl, y, .ty "bool", kindOf e, _, isB e, rfl, .ty _, dp_ty he, kit_bool fe.noDict, rfl, _, rfl, ?_⟩
    rw [dec_bl, ← bne] 
    cases h2 : (isB d != isB e) with
    | true =>
      rw [h2] at ea
      refine iteT ?_
      have := k H Ext.rfl'
      rw [ea] at this
      exact this
    | false =>
      rw [h2] at ea
      refine iteF ⟨_, rfl, _, rfl, d, e, hd, he, shaped_of fd' hn cd, shaped_of fe hn ce, .inr ⟨_, rfl, ?_⟩⟩
      have := k H Ext.rfl'
      rw [ea] at this
      exact this
  | false =>
    refine iteF ?_
    refine iteF ⟨_, rfl, x, .ty "bool", kindOf d, _, isB d, rfl, .ty _, dp_ty hd, kit_bool fd'.noDict, _, rfl, y, .ty "bool", kindOf e, _, isB e, rfl, .ty _, dp_ty he, kit_bool fe.noDict, rfl, _, rfl, ?_⟩
    rw [dec_bl, ← bne]
    cases h2 : (isB d != isB e) with
    | true =>
      rw [h2] at ea
      refine iteT ?_
      have := k H Ext.rfl'
      rw [ea] at this
      exact this
    | false =>
      rw [h2] at ea
      refine iteF ⟨_, rfl, _, rfl, d, e, hd, he, shaped_of fd' hn cd, shaped_of fe hn ce, .inr ⟨_, rfl, ?_⟩⟩
      have := k H Ext.rfl'
      rw [ea] at this
      exact this
theorem ok_alike {f : Addr} {fd : FuncData} (F : Fun K "are_alike" "are_alike" sAlike f fd) (B : Bl mg) (b : Binds K fd ["one", "other"] []) (hg : mg "are_alike" = some (.ref f)) :
    ∀ n, n ≤ 60 → FnOk P w K mg base CX0 (n + 1) f fd ["one", "other"] (spAlike K n) := by
  intro n hn
  induction n with
  | zero =>
    refine F.ok scAl (fun vs H Q E h => ?_) (fun cdv A outer s H vs Q E hr h => ?_)
    · obtain ⟨x, y, d, e, rfl, _⟩ := h
      rfl
    · obtain ⟨x, y, d, e, rfl, hd, he, fd', fe, fl, fl', cd, ce, k⟩ := h
      exact alike_flat_way hn B hr hd he fd' fe cd ce (by cases fd' <;> rfl) k
  | succ n ih =>
    have ih := ih (by omega)
    refine F.ok scAl (fun vs H Q E h => ?_) (fun cdv A outer s H vs Q E hr h => ?_)
    · obtain ⟨x, y, d, e, rfl, _⟩ := h
      rfl
    · obtain ⟨x, y, d, e, rfl, hd, he, fd', fe, fl, fl', cd, ce, k⟩ := h
      cases both : (isTup d && isTup e) with
      | false => exact alike_flat_way hn B (hr.mono (by omega)) hd he fd' fe cd ce both k
      | true =>
        rw [Bool.and_eq_true] at both
        obtain ⟨h1, h2⟩ := both
        cases hd with
        | @tup a xs ds hs ha =>
          cases he with
          | @tup b' ys es hs' ha' =>
            cases fd' with
            | tuple hl hx =>
              cases fe with
              | tuple hl' hx' =>
                refine ⟨_, pss_cons (ps_if (PW.pt (pw_and (pt_val (pe_callB call_isi (by rfl) B.isi (by decide +kernel) (pa_cons (pv 0) (pa_cons (pe_bltn (v := .ty "tuple") (by rfl) B.tup (by decide +kernel) rfl) pa_nil))))
                    (pw_and1 (pt_val (pe_callB call_isi (by rfl) B.isi (by decide +kernel) (pa_cons (pv 1) (pa_cons (pe_bltn (v := .ty "tuple") (by rfl) B.tup (by decide +kernel) rfl) pa_nil)))))))
                  (pss_one (ps_ret (pe_and (pe_cmpR op_eq (pe_callB call_len (by rfl) B.len PySem.boot_len (pa_cons (pv 0) pa_nil)) (pe_callB call_len (by rfl) B.len PySem.boot_len (pa_cons (pv 1) pa_nil)) (nomark _))
                    (pe_one (pe_callB (cr_all rfl) (by rfl) B.all (by decide +kernel) (pa_cons (pe_lc (own := [("part", 2), ("its", 3)]) (g := gTup K 2 (gCons (gName 2) (gCons (gName 3) gNil))) (tt := tYes) rfl scAl.nd
                      (RZ.pi_zipA (by rfl) B.zip (pa_cons (pv 0) (pa_cons (pv 1) pa_nil))) (blkOk_by (N := ["one", "other", "part", "its"]) (sc := defScope sAlike) (by decide +kernel))
                      (fun _ _ _ _ _ => pg_tup rfl (pgs_cons (pg_name (i := 2) scAl.nd rfl (Or.inl rfl)) (pgs_cons (pg_name (i := 3) scAl.nd rfl (Or.inl rfl)) pgs_nil))) (fun _ _ _ _ _ => pts_nil)
                      (fun _ _ _ _ _ => pe_call ih hr rfl hg F.kp b .nil pass0 (pa_cons (pv 2) (pa_cons (pv 3) pa_nil)))) pa_nil)))))) pss_nil) pss_never, ?_⟩
                refine ⟨_, rfl, _, .ty "tuple", .type "tuple", _, true, rfl, .ty _, sqT_ty hs, kit_ty (by decide +kernel), _, rfl, iteT ?_⟩
                refine ⟨_, rfl, _, .ty "tuple", .type "tuple", _, true, rfl, .ty _, sqT_ty hs', kit_ty (by decide +kernel), _, rfl, iteT ?_⟩
                refine ⟨_, rfl, _, _, rfl, .inr ⟨_, hs, rfl⟩, _, rfl, _, _, rfl, .inr ⟨_, hs', rfl⟩, rfl, ?_⟩
                rw [dec_int]
                have el : (((xs.length : Nat) : Int) == ((ys.length : Nat) : Int)) = (ds.length == es.length) := by
                  rw [dpLen ha, dpLen ha', Bool.eq_iff_iff]
                  simp only [beq_iff_eq]
                  exact Int.ofNat_inj
                rw [el]
                refine ⟨_, rfl, ?_⟩
                cases hlen : (ds.length == es.length) with
                | false =>
                  refine iteF ?_
                  have := k H Ext.rfl'
                  rw [alike_tuple, hlen, Bool.false_and] at this
                  exact this
                | true =>
                  have hlen' : ds.length = es.length := by simpa using hlen
                  refine iteT ⟨_, rfl, _, rfl, a, b', xs, ys, rfl, .inr ⟨hs, hs', fun D hD => ?_⟩⟩
                  refine lc_zipT (K := K) (xs := xs) (ys := ys) (by rw [dpLen ha, dpLen ha', hlen']) (fun i H2 => H2 D = some (.lst (((List.zipWith alike ds es).take i).map V.bl)) ∧ Ext H H2) ⟨upd_same, Ext.upd hD⟩ (fun i H2 _ q => ⟨hs.ext q.2, hs'.ext q.2⟩) ?_ ?_
                  · intro i u v H2 T hu hv q hT
                    obtain ⟨q1, q2⟩ := q
                    obtain ⟨d1, hd1, dp1⟩ := dpGet ha hu
                    obtain ⟨e1, he1, dp2⟩ := dpGet ha' hv
                    have hDT : D ≠ T := ne_of_none q1 hT
                    have x1 : Ext H (upd H2 T (.tup [u, v])) := q2.upd' hT
                    refine ⟨T, [u, v], rfl, SqT.of upd_same, rfl, u, [v], rfl, v, [], rfl, rfl, rfl, _, rfl, _, rfl, u, v, d1, e1, rfl, Dp.ext x1 _ _ dp1, Dp.ext x1 _ _ dp2, hx d1 (List.mem_of_getElem? hd1), hx' e1 (List.mem_of_getElem? he1), ?_, ?_, ?_, ?_, ?_⟩
                    · cases fl with
                      | tuple f => exact f d1 (List.mem_of_getElem? hd1)
                    · cases fl' with
                      | tuple f => exact f e1 (List.mem_of_getElem? he1)
                    · exact canLay_mem (by simpa [PyData.canLay0] using cd) d1 (List.mem_of_getElem? hd1)
                    · exact canLay_mem (by simpa [PyData.canLay0] using ce) e1 (List.mem_of_getElem? he1)
                    · intro H3 e3
                      refine ⟨_, e3 D _ (by rw [upd_ne hDT]; exact q1), ?_, ?_, ext_mut (x1.trans e3) hD⟩
                      · rw [List.length_map, List.length_take, List.length_zipWith]
                        exact small (by omega)
                      · have hz : (List.zipWith alike ds es)[i]? = some (alike d1 e1) := by
                          rw [List.getElem?_zipWith, hd1, he1]
                        rw [upd_same, List.take_add_one, hz]
                        simp
                  · intro H2 q
                    obtain ⟨q1, q2⟩ := q
                    refine ⟨D, List.zipWith alike ds es, rfl, ?_, ?_⟩
                    · have : (List.zipWith alike ds es).take xs.length = List.zipWith alike ds es := List.take_of_length_le (by rw [List.length_zipWith, dpLen ha]; omega)
                      rw [this] at q1
                      exact SqL.of q1
                    · have := k H2 q2
                      rw [alike_tuple, hlen, Bool.true_and, alikeAll_eq] at this
                      exact this
          | _ => cases h2
        | _ => cases h1
end
end P45

/-! k45: papers: what stands at one, Paper's own methods. -/
namespace P45
open PySem L2 M45
abbrev sPInit : Stmt := inClass (top 3) 0
abbrev sPBool : Stmt := inClass (top 3) 1
abbrev sPEq : Stmt := inClass (top 3) 2
abbrev sDBool : Stmt := inClass (top 4) 0

/-- lists and tuples stay -/
def KeepS (H H' : Hp) : Prop := ∀ a xs, (Rd H a (.lst xs) → Rd H' a (.lst xs)) ∧ (Rd H a (.tup xs) → Rd H' a (.tup xs))
theorem KeepS.ins {H : Hp} {D C dx : Addr} {fs : List (Str × V)} {o : HO} (h : H D = some (.ins C dx fs)) : KeepS H (upd H D o) := fun a xs => by
  constructor
  all_goals
    intro r
    have ne : a ≠ D := fun z => by
      subst z
      rcases r with r | ⟨o, r⟩ <;> (rw [h] at r; cases r)
    rcases r with r | ⟨o, r⟩
    · exact .inl (by rw [upd_ne ne]; exact r)
    · exact .inr ⟨o, by rw [upd_ne ne]; exact r⟩
mutual
theorem Dp.keepS {K : PySem.W.Frag} {H H' : Hp} (e : KeepS H H') : ∀ (d : PyData) (v : V), Dp K H v d → Dp K H' v d
  | .none, _, h => by cases h; exact .non
  | .bool b, _, h => by cases h; exact .bl b
  | .int i, _, h => by cases h; exact .int i
  | .str x, _, h => by cases h; exact .str x
  | .list ds, _, h => by
    cases h with
    | lst hs ha => exact .lst (hs.elim (fun h => .inl ((e _ _).1 h)) .inr) (Dp.keepSAll e ds _ ha)
  | .tuple ds, _, h => by
    cases h with
    | tup hs ha => exact .tup (hs.elim (fun h => .inl ((e _ _).2 h)) .inr) (Dp.keepSAll e ds _ ha)
  | .dict _, _, h => by cases h
theorem Dp.keepSAll {K : PySem.W.Frag} {H H' : Hp} (e : KeepS H H') : ∀ (ds : List PyData) (vs : List V), DpAll K H vs ds → DpAll K H' vs ds
  | [], _, h => by cases h; exact .nil
  | d :: ds, _, h => by
    cases h with
    | cons h1 h2 => exact .cons (Dp.keepS e d _ h1) (Dp.keepSAll e ds _ h2)
end
/-- told data that fit -/
structure Good (n : Nat) (d : PyData) : Prop where
  fits : Fits n d
  fl : Fl d
  lay : d.canLay0 = true
/-- a paper of the class at C: its word, its parts, its attributes -/
structure PAt (K : PySem.W.Frag) (H : Hp) (x C : Addr) (word : Str) (ds : List PyData) (as : List Str) : Prop where
  ex : ∃ (dx : Addr) (fs : List (Str × V)) (t : Addr) (xs : List V), H x = some (.ins C dx fs) ∧ fs.lookup ("word" : Str) = some (.str word) ∧ fs.lookup ("parts" : Str) = some (.ref t) ∧ SqT K H t xs ∧ DpAll K H xs ds ∧
    (∀ (i : Nat) (a : Str) (v : V), as[i]? = some a → xs[i]? = some v → fs.lookup a = some v) ∧ (∀ m : Str, ¬ m = "word" → ¬ m = "parts" → m ∉ as → fs.lookup m = none)
theorem PAt.ext {K : PySem.W.Frag} {H H' : Hp} {x C : Addr} {word : Str} {ds : List PyData} {as : List Str} (h : PAt K H x C word ds as) (e : Ext H H') : PAt K H' x C word ds as := by
  obtain ⟨dx, fs, t, xs, h1, h2, h3, h4, h5, h6, h7⟩ := h.ex
  exact ⟨dx, fs, t, xs, e _ _ h1, h2, h3, h4.ext e, Dp.extAll e _ _ h5, h6, h7⟩
/-- what the text has of Paper and of what is below it -/
structure PCls (K : PySem.W.Frag) (C : Addr) (n : Str) (CP fEq : Addr) : Prop where
  cl : Cls K C
  nm : ClsN K C n
  nW : NoAttr K C "word"
  nP : NoAttr K C "parts"
  own : OwnE K C fEq
  isP : PySem.W.kitOne K (.ref C) (.ref CP) = some true
  nfL : PySem.W.notFirst K C (.type "list") = true
theorem PCls.ty {K : PySem.W.Frag} {C CP fEq : Addr} {n : Str} (c : PCls K C n CP fEq) {H : Hp} {a dx : Addr} {fs : List (Str × V)} (h : H a = some (.ins C dx fs)) : TyX K H (.ref a) (.ref C) :=
  .base (.ins h c.cl c.nm.ha c.nm.hn c.nm.ht c.nm.hm)
/-- all but x is as it was -/
def ButX (x : Addr) (H H' : Hp) : Prop := ∀ a o, a ≠ x → H a = some o → H' a = some o
theorem ButX.of {x : Addr} {H H' : Hp} (e : Ext H H') : ButX x H H' := fun a o _ h => e a o h
theorem ButX.trans {x : Addr} {H H1 H2 : Hp} (a : ButX x H H1) (b : ButX x H1 H2) : ButX x H H2 := fun c o n h => b c o n (a c o n h)
theorem ButX.upd {x : Addr} {H : Hp} {o : HO} : ButX x H (upd H x o) := fun a u n h => by rw [upd_ne n]; exact h
/-- what Paper.__init__ promises, of word, and the parts in a tuple -/
def spPIn (K : PySem.W.Frag) (n : Nat) : Sp := fun vs H Q _ => ∃ (x C dx p : Addr) (word : Str) (ds : List PyData), vs = [.ref x, .str word, .ref p] ∧ H x = some (.ins C dx []) ∧ Cls K C ∧ NoAttr K C "word" ∧ NoAttr K C "parts" ∧ Dp K H (.ref p) (.tuple ds) ∧ Fits n (.tuple ds) ∧
  ∀ H' t xs, ButX x H H' → H' x = some (.ins C dx (putF "parts" (.ref t) (putF "word" (.str word) []))) → SqT K H' t xs → DpAll K H' xs (ds.map told) → Q .non H'
section
variable {P : Program} {w : World} {K : PySem.W.Frag} {mg : Str → Option Value} {base : Heap}
theorem scPI : FnScope ["self", "word", "parts"] ["self", "word", "parts"] (defScope sPInit) := ⟨rfl, rfl, rfl, by decide +kernel, rfl, by decide +kernel, by decide +kernel⟩
/-- Paper.__init__, by positional values -/
def spPInit (K : PySem.W.Frag) (n : Nat) : Sp := fun vs H Q _ => ∃ (x C dx : Addr) (word : Str) (rest : List V) (ds : List PyData), vs = .ref x :: .str word :: rest ∧ H x = some (.ins C dx []) ∧ Cls K C ∧ NoAttr K C "word" ∧ NoAttr K C "parts" ∧ DpAll K H rest ds ∧ ds.length ≤ 1000 ∧ (∀ d ∈ ds, Fits n d) ∧
  ∀ H' t xs, ButX x H H' → H' x = some (.ins C dx (putF "parts" (.ref t) (putF "word" (.str word) []))) → SqT K H' t xs → DpAll K H' xs (ds.map told) → Q .non H'
theorem ok_pinit {f ff : Addr} {fd ffd : FuncData} (F : Fun K "__init__" "Paper.__init__" sPInit f fd) (B : Bl mg) (FF : Fun K "fixed" "fixed" sFixed ff ffd) (bf : Binds K ffd ["value"] []) (hg : mg "fixed" = some (.ref ff)) (n : Nat) :
    FnR P w K mg base CX0 (n + 3) f (spPInit K n) := by
  obtain ⟨oc, od, kV, doc, pm, an, cdv, ct, osl, rfl, lk, hcd⟩ := F.ex
  have G : FnOk P w K mg base CX0 (n + 2) ff ffd ["value"] (spFixed K (n + 1)) := ok_fixed FF B bf hg (n + 1)
  have R := StX.fn_star (P := P) (w := w) (mg := mg) (base := base) (ps := ["self", "word"]) (pv := "parts") (sp := spPIn K (n + 1)) (CX := CX0) (k := n + 2) lk hcd scPI StX.cxUp_none
    (StX.bind_star2 (B := fun us => bindArgs _ ⟨us, []⟩) (p1 := "self") (p2 := "word") (pv := "parts") (fun a b => rfl) (fun a b r rs => rfl)) (fun A outer s H vs Q E hr h => ?_)
  · refine R.imp fun vs H Q E h => ?_
    obtain ⟨x, C, dx, word, rest, ds, rfl, hx, c, nW, nP, hd, hl, hf, k⟩ := h
    refine ⟨[.ref x, .str word], rest, rfl, rfl, by rw [dpLen hd]; exact Nat.le_of_lt (small hl), fun p hp => ?_⟩
    have ne : x ≠ p := ne_of_none hx hp
    refine ⟨x, C, dx, p, word, ds, rfl, by rw [upd_ne ne]; exact hx, c, nW, nP, .tup (SqT.of upd_same) (Dp.extAll (Ext.upd hp) _ _ hd), .tuple hl hf, fun H' t xs b h1 h2 h3 => k H' t xs (ButX.trans (ButX.of (Ext.upd hp)) b) h1 h2 h3⟩
  · obtain ⟨x, C, dx, p, word, ds, rfl, hx, c, nW, nP, hd, hf, k⟩ := h
    have body : ∃ t, PSs (cxOf CX0 P w K mg base ["self", "word", "parts"] "Paper.__init__" (defScope sPInit) f cdv A outer s H E).nox (defBody sPInit) t ∧ t { nx := fun _ H' => Q .non H', rt := Q } (start ["self", "word", "parts"] [.ref x, .str word, .ref p]) H := ?_
    · obtain ⟨t, h1, h2⟩ := body
      exact ⟨t, h1.nox, h2⟩
    refine ⟨_, pss_cons (ps_fld (pv 0) (pe_call G hr rfl hg FF.kp bf .nil pass0 (pa_cons (pv 1) pa_nil)) rfl)
      (pss_one (ps_fld (pv 0) (pe_call G hr rfl hg FF.kp bf .nil pass0 (pa_cons (pv 2) pa_nil)) rfl)), ?_⟩
    refine ⟨_, rfl, .str word, .str word, rfl, .str word, .str word, fun v' H1 e1 hv => ?_⟩
    obtain rfl : v' = .str word := by
      simp only [told] at hv
      cases hv
      rfl
    refine ⟨_, rfl, x, C, dx, [], rfl, e1 _ _ hx, c, nW, (by show 0 < 1000; decide), ?_⟩
    have d2 : Dp K (upd H1 x (.ins C dx (putF "word" (.str word) []))) (.ref p) (.tuple ds) := by
      exact Dp.keepS (KeepS.ins (e1 _ _ hx)) _ _ (Dp.ext e1 _ _ hd)
    refine ⟨_, rfl, .ref p, .tuple ds, rfl, d2, hf, fun v' H2 e2 hv => ?_⟩
    rw [told_tuple] at hv
    cases hv with
    | @tup t xs _ hs ha =>
      refine ⟨_, rfl, x, C, dx, _, rfl, e2 _ _ upd_same, c, nP, (by show 1 < 1000; decide), ?_⟩
      have hx2 : H2 x = some (.ins C dx (putF "word" (.str word) [])) := e2 _ _ upd_same
      refine k _ t xs ?_ upd_same (SqT.keep (KeepT.ins hx2) hs) (Dp.keepTAll (KeepT.ins hx2) _ _ ?_ ha)
      · exact ((ButX.of e1).trans ButX.upd).trans ((ButX.of e2).trans ButX.upd)
      · intro d hd'
        obtain ⟨y, hy, rfl⟩ := List.mem_map.mp hd'
        cases hf with
        | tuple _ hx' => exact (hx' y hy).toldFl
end
end P45

/-! k45: __bool__, __eq__ of papers. -/
namespace P45
open PySem L2 M45
/-- what == answers of papers -/
def DPap (K : PySem.W.Frag) (CP fEq : Addr) (m : Nat) : EqB := fun x y H r =>
  (∃ (a b C C' : Addr) (n n' word word' : Str) (ds ds' : List PyData) (as as' : List Str), x = .ref a ∧ y = .ref b ∧ PCls K C n CP fEq ∧ PCls K C' n' CP fEq ∧ PAt K H a C word ds as ∧ PAt K H b C' word' ds' as' ∧
    Good m (.tuple [.str word, .tuple ds]) ∧ Good m (.tuple [.str word', .tuple ds']) ∧ r = (decide (n = n') && alike (.tuple [.str word, .tuple ds]) (.tuple [.str word', .tuple ds']))) ∨
  (∃ (a b C : Addr) (n word : Str) (ds : List PyData) (as : List Str) (xs : List V), x = .ref a ∧ y = .ref b ∧ PCls K C n CP fEq ∧ PAt K H a C word ds as ∧ H b = some (.lst xs) ∧ PySem.W.kitOne K (.type "list") (.ref CP) = some false ∧ r = false)
section
variable {P : Program} {w : World} {K : PySem.W.Frag} {mg : Str → Option Value} {base : Heap}
theorem scPB : FnScope ["self"] ["self"] (defScope sPBool) := ⟨rfl, rfl, rfl, by decide +kernel, rfl, by decide +kernel, by decide +kernel⟩
theorem ok_pbool {f : Addr} {fd : FuncData} (F : Fun K "__bool__" "Paper.__bool__" sPBool f fd) : FnOk P w K mg base CX0 1 f fd ["self"] (spBool true) := by
  refine F.ok scPB (fun vs H Q E h => ?_) (fun cdv A outer s H vs Q E hr h => ?_)
  · obtain ⟨a, rfl, _⟩ := h
    rfl
  · obtain ⟨a, rfl, k⟩ := h
    exact ⟨_, pss_one (ps_ret pe_bl), k⟩
theorem scDB : FnScope ["self"] ["self"] (defScope sDBool) := ⟨rfl, rfl, rfl, by decide +kernel, rfl, by decide +kernel, by decide +kernel⟩
theorem ok_dbool {f : Addr} {fd : FuncData} (F : Fun K "__bool__" "Denial.__bool__" sDBool f fd) : FnOk P w K mg base CX0 1 f fd ["self"] (spBool false) := by
  refine F.ok scDB (fun vs H Q E h => ?_) (fun cdv A outer s H vs Q E hr h => ?_)
  · obtain ⟨a, rfl, _⟩ := h
    rfl
  · obtain ⟨a, rfl, k⟩ := h
    exact ⟨_, pss_one (ps_ret pe_bl), k⟩
theorem scPE : FnScope ["self", "other"] ["self", "other"] (defScope sPEq) := ⟨rfl, rfl, rfl, by decide +kernel, rfl, by decide +kernel, by decide +kernel⟩
theorem ok_peq {f fa CP fEq : Addr} {fd fda : FuncData} (F : Fun K "__eq__" "Paper.__eq__" sPEq f fd) (B : Bl mg) (FA : Fun K "are_alike" "are_alike" sAlike fa fda) (ba : Binds K fda ["one", "other"] []) (hg : mg "are_alike" = some (.ref fa)) (hP : mg "Paper" = some (.ref CP)) (m : Nat) (hm : m ≤ 60) :
    FnOk P w K mg base CX0 (m + 2) f fd ["self", "other"] (spEqB (DPap K CP fEq m)) := by
  have G : FnOk P w K mg base CX0 (m + 1) fa fda ["one", "other"] (spAlike K m) := ok_alike FA B ba hg m hm
  refine F.ok scPE (fun vs H Q E h => ?_) (fun cdv A outer s H vs Q E hr h => ?_)
  · obtain ⟨x, y, r, rfl, _⟩ := h
    rfl
  · obtain ⟨x, y, r, rfl, d, k⟩ := h
    refine ⟨_, pss_cons (ps_if (PW.pt (pw_or (pt_not (pt_val (pe_callB call_isi (by rfl) B.isi (by decide +kernel) (pa_cons (pv 1) (pa_cons (pe_glob (v := .ref CP) rfl hP rfl) pa_nil)))))
        (pw_or1 (pt_cmpR op_ne (pe_clsName (pv 0) rfl rfl) (pe_clsName (pv 1) rfl rfl) (nomark _))))) (pss_one (ps_ret pe_bl)) pss_nil)
      (pss_one (ps_ret (pe_call G hr rfl hg FA.kp ba .nil pass0 (pa_cons (pe_tup (pa_cons (pe_fld (pv 0) rfl) (pa_cons (pe_fld (pv 0) rfl) pa_nil)))
        (pa_cons (pe_tup (pa_cons (pe_fld (pv 1) rfl) (pa_cons (pe_fld (pv 1) rfl) pa_nil))) pa_nil))))), ?_⟩
    rcases d with ⟨a, b, C, C', n, n', word, word', ds, ds', as, as', rfl, rfl, c, c', pa, pb, g, g', rfl⟩ | ⟨a, b, C, n, word, ds, as, xs, rfl, rfl, c, pa, hb, hk, rfl⟩
    · obtain ⟨dx, fs, t, xs, h1, h2, h3, h4, h5, _, _⟩ := pa.ex
      obtain ⟨dy, gs, t', ys, i1, i2, i3, i4, i5, _, _⟩ := pb.ex
      refine ⟨_, rfl, .ref b, .ref CP, .ref C', .ref CP, true, rfl, .own CP, c'.ty i1, c'.isP, _, rfl, ?_⟩
      refine iteF ⟨_, rfl, a, C, dx, fs, n, rfl, h1, c.cl, c.nm, _, rfl, b, C', dy, gs, n', rfl, i1, c'.cl, c'.nm, rfl, _, rfl, ?_⟩
      rw [dec_str]
      cases en : (n == n') with
      | false =>
        refine iteT ?_
        have := k H Ext.rfl'
        rw [decide_eq_false (beq_eq_false_iff_ne.mp en), Bool.false_and] at this
        exact this
      | true =>
        refine iteF ?_
        refine ⟨_, rfl, a, C, dx, fs, _, rfl, h1, c.cl, c.nW, h2, _, rfl, a, C, dx, fs, _, rfl, h1, c.cl, c.nP, h3, (by show 2 ≤ sizeLine; decide), fun p hp => ?_⟩
        have e1 : Ext H (upd H p (.tup [.str word, .ref t])) := Ext.upd hp
        refine ⟨_, rfl, b, C', dy, gs, _, rfl, e1 _ _ i1, c'.cl, c'.nW, i2, _, rfl, b, C', dy, gs, _, rfl, e1 _ _ i1, c'.cl, c'.nP, i3, (by show 2 ≤ sizeLine; decide), fun q hq => ?_⟩
        have e2 := e1.upd' (o := .tup [.str word', .ref t']) hq
        have npq : p ≠ q := ne_of_none upd_same hq
        have D1 : Dp K (upd (upd H p (.tup [.str word, .ref t])) q (.tup [.str word', .ref t'])) (.ref p) (.tuple [.str word, .tuple ds]) :=
          .tup (SqT.of (by rw [upd_ne npq]; exact upd_same)) (.cons (.str word) (.cons (.tup (h4.ext e2) (Dp.extAll e2 _ _ h5)) .nil))
        have D2 : Dp K (upd (upd H p (.tup [.str word, .ref t])) q (.tup [.str word', .ref t'])) (.ref q) (.tuple [.str word', .tuple ds']) :=
          .tup (SqT.of upd_same) (.cons (.str word') (.cons (.tup (i4.ext e2) (Dp.extAll e2 _ _ i5)) .nil))
        refine ⟨_, _, _, _, rfl, D1, D2, g.fits, g'.fits, g.fl, g'.fl, g.lay, g'.lay, fun H' e3 => ?_⟩
        have := k H' (e2.trans e3)
        rw [decide_eq_true (beq_iff_eq.mp en), Bool.true_and] at this
        exact this
    · refine ⟨_, rfl, .ref b, .ref CP, .type "list", .ref CP, false, rfl, .own CP, .base (.lst hb), hk, _, rfl, ?_⟩
      refine iteT ?_
      refine iteT ?_
      exact k H Ext.rfl'
end
end P45

/-! k45: __init__ of the classes below Paper. -/
namespace P45
open PySem L2 M45
/-- the made function of a def in a class that mentions super -/
def nfOf (q : Str) (st : Stmt) (cl : List (Str × Addr)) (c : Addr) : NdefX.NF := ⟨"__init__", q, defArgs st, defBody st, defScope st, cl, c⟩
/-- what the classes' __init__ promise -/
def spIni (K : PySem.W.Frag) (n : Nat) (C : Addr) (k : Nat) (word : Str) (as : List Str) : Sp := fun vs H Q _ => ∃ (x dx : Addr) (us : List V) (ds : List PyData), vs = .ref x :: us ∧ us.length = k ∧ H x = some (.ins C dx []) ∧ DpAll K H us ds ∧ (∀ d ∈ ds, Fits n d) ∧
  ∀ H', ButX x H H' → PAt K H' x C word (ds.map told) as → Q .non H'
/-- what the text has of such a class -/
structure SubC (K : PySem.W.Frag) (C fP : Addr) : Prop where
  cl : Cls K C
  nW : NoAttr K C "word"
  nP : NoAttr K C "parts"
  mro : PySem.W.mroIn K C (.ref C) = some true
  sup : PySem.W.ks_superIn K C C "__init__" = some (some (.ref fP))
  ty : PySem.W.typeIn K (.ref fP) = some (.type "function")
  fn : PySem.W.fnIn K fP = true
theorem tolds {n : Nat} {ds : List PyData} (h : ∀ d ∈ ds, Fits n d) : ∀ d ∈ ds.map told, Fl d := by
  intro d hd
  obtain ⟨y, hy, rfl⟩ := List.mem_map.mp hd
  exact (h y hy).toldFl
section
variable {P : Program} {w : World} {K : PySem.W.Frag} {mg : Str → Option Value} {base : Heap}
theorem ok_freed {f cc c C fP : Addr} {fd : FuncData} (SF : SupX.SupFun P K (nfOf "Freed.__init__" (inClass (top 6) 0) [("__class__", cc)] c) f cc C fd) (T : SupX.SupTxt P K mg) (S : SubC K C fP) (na : NoAttr K C "frees") (nb : NoAttr K C "rows")
    (n : Nat) (FP : FnR P w K mg base CX0 (n + 3) fP (spPInit K n)) : FnOk P w K mg base CX0 (n + 4) f fd ["self", "frees", "rows"] (spIni K n C 2 "freed" ["frees", "rows"]) := by
  refine SupX.fn_super (N := ["self", "frees", "rows", "__class__"]) (p0 := _) (p1 := _) (apos := _) (cpos := _) (epos := _) (e0 := _) (es := _) (rest := _) SF T (show NdefX.NScope _ _ _ (defScope (inClass (top 6) 0)) from NdefX.nscope_by (by decide +kernel)) rfl rfl rfl rfl (fun _ => rfl) (fun _ => rfl) (fun _ => rfl) (fun vs H Q E h => ?_) (fun A outer s H vs Q E hr h => ?_)
  · obtain ⟨x, dx, us, ds, rfl, hl, _⟩ := h
    simp [hl]
  · obtain ⟨x, dx, us, ds, rfl, hl, hx, hd, hf, k⟩ := h
    match us, hl with
    | [a, b], _ =>
    refine ⟨x, C, dx, [], fP, spPInit K n, _, _, rfl, hx, S.mro, S.sup, S.ty, S.fn, FP, pa_cons pe_str (pa_cons (pv 1) (pa_cons (pv 2) pa_nil)), rfl, rfl,
      pss_one (ps_asg (pe_fld (pv 0) rfl) (pg_tup rfl (pgs_cons (pg_fld (pv 0)) (pgs_cons (pg_fld (pv 0)) pgs_nil)))), ?_⟩
    refine ⟨_, rfl, _, rfl,  x, C, dx, "freed", [a, b], ds, rfl, hx, S.cl, S.nW, S.nP, hd, by rw [← dpLen hd]; show 2 ≤ 1000; decide, hf, fun H' t xs b1 h1 h2 h3 => ?_⟩
    have hxl : xs.length = 2 := by
      rw [dpLen h3, List.length_map, ← dpLen hd]
      rfl
    match xs, hxl with
    | [y, z], _ =>
    refine ⟨_, rfl, x, C, dx, _, _, rfl, h1, S.cl, S.nP, rfl, t, [y, z], rfl, h2, rfl, y, [z], rfl, _, rfl, x, C, dx, _, rfl, h1, S.cl, na, (by show 2 < 1000; decide), ?_⟩
    refine ⟨z, [], rfl, _, rfl, x, C, dx, _, rfl, upd_same, S.cl, nb, (by show 3 < 1000; decide), ?_⟩
    refine ⟨rfl, ?_⟩
    refine k _ ((b1.trans ButX.upd).trans ButX.upd) ⟨dx, _, t, [y, z], upd_same, rfl, rfl, SqT.keep ((KeepT.ins h1).trans (KeepT.ins upd_same)) h2, Dp.keepTAll ((KeepT.ins h1).trans (KeepT.ins upd_same)) _ _ (tolds hf) h3, ?_, ?_⟩
    · intro i a v h1 h2
      match i, h1, h2 with
      | 0, h1, h2 => cases h1; cases h2; rfl
      | 1, h1, h2 => cases h1; cases h2; rfl
    · intro m m1 m2 m3
      simp only [lookup_putF]
      have m4 : ¬ m = "frees" := fun z => m3 (by simp [z])
      have m5 : ¬ m = "rows" := fun z => m3 (by simp [z])
      rw [if_neg m5, if_neg m4, if_neg m2, if_neg m1]
      rfl
theorem ok_torn {f cc c C fP : Addr} {fd : FuncData} (SF : SupX.SupFun P K (nfOf "Torn.__init__" (inClass (top 7) 0) [("__class__", cc)] c) f cc C fd) (T : SupX.SupTxt P K mg) (S : SubC K C fP) (na : NoAttr K C "shape") (nb : NoAttr K C "run") (ne : NoAttr K C "others")
    (n : Nat) (FP : FnR P w K mg base CX0 (n + 3) fP (spPInit K n)) : FnOk P w K mg base CX0 (n + 4) f fd ["self", "shape", "run", "others"] (spIni K n C 3 "torn" ["shape", "run", "others"]) := by
  refine SupX.fn_super (N := ["self", "shape", "run", "others", "__class__"]) (p0 := _) (p1 := _) (apos := _) (cpos := _) (epos := _) (e0 := _) (es := _) (rest := _) SF T (show NdefX.NScope _ _ _ (defScope (inClass (top 7) 0)) from NdefX.nscope_by (by decide +kernel)) rfl rfl rfl rfl (fun _ => rfl) (fun _ => rfl) (fun _ => rfl) (fun vs H Q E h => ?_) (fun A outer s H vs Q E hr h => ?_)
  · obtain ⟨x, dx, us, ds, rfl, hl, _⟩ := h
    simp [hl]
  · obtain ⟨x, dx, us, ds, rfl, hl, hx, hd, hf, k⟩ := h
    match us, hl with
    | [a, b, e], _ =>
    refine ⟨x, C, dx, [], fP, spPInit K n, _, _, rfl, hx, S.mro, S.sup, S.ty, S.fn, FP, pa_cons pe_str (pa_cons (pv 1) (pa_cons (pv 2) (pa_cons (pv 3) pa_nil))), rfl, rfl,
      pss_one (ps_asg (pe_fld (pv 0) rfl) (pg_tup rfl (pgs_cons (pg_fld (pv 0)) (pgs_cons (pg_fld (pv 0)) (pgs_cons (pg_fld (pv 0)) pgs_nil))))), ?_⟩
    refine ⟨_, rfl, _, rfl, _, rfl,  x, C, dx, "torn", [a, b, e], ds, rfl, hx, S.cl, S.nW, S.nP, hd, by rw [← dpLen hd]; show 3 ≤ 1000; decide, hf, fun H' t xs b1 h1 h2 h3 => ?_⟩
    have hxl : xs.length = 3 := by
      rw [dpLen h3, List.length_map, ← dpLen hd]
      rfl
    match xs, hxl with
    | [y, z, u], _ =>
    refine ⟨_, rfl, x, C, dx, _, _, rfl, h1, S.cl, S.nP, rfl, t, [y, z, u], rfl, h2, rfl, y, [z, u], rfl, _, rfl, x, C, dx, _, rfl, h1, S.cl, na, (by show 2 < 1000; decide), ?_⟩
    refine ⟨z, [u], rfl, _, rfl, x, C, dx, _, rfl, upd_same, S.cl, nb, (by show 3 < 1000; decide), ?_⟩
    refine ⟨u, [], rfl, _, rfl, x, C, dx, _, rfl, upd_same, S.cl, ne, (by show 4 < 1000; decide), ?_⟩
    refine ⟨rfl, ?_⟩
    refine k _ (((b1.trans ButX.upd).trans ButX.upd).trans ButX.upd) ⟨dx, _, t, [y, z, u], upd_same, rfl, rfl, SqT.keep (((KeepT.ins h1).trans (KeepT.ins upd_same)).trans (KeepT.ins upd_same)) h2, Dp.keepTAll (((KeepT.ins h1).trans (KeepT.ins upd_same)).trans (KeepT.ins upd_same)) _ _ (tolds hf) h3, ?_, ?_⟩
    · intro i a v h1 h2
      match i, h1, h2 with
      | 0, h1, h2 => cases h1; cases h2; rfl
      | 1, h1, h2 => cases h1; cases h2; rfl
      | 2, h1, h2 => cases h1; cases h2; rfl
    · intro m m1 m2 m3
      simp only [lookup_putF]
      have m4 : ¬ m = "shape" := fun z => m3 (by simp [z])
      have m5 : ¬ m = "run" := fun z => m3 (by simp [z])
      have m6 : ¬ m = "others" := fun z => m3 (by simp [z])
      rw [if_neg m6, if_neg m5, if_neg m4, if_neg m2, if_neg m1]
      rfl
theorem ok_needed {f cc c C fP : Addr} {fd : FuncData} (SF : SupX.SupFun P K (nfOf "Needed.__init__" (inClass (top 9) 0) [("__class__", cc)] c) f cc C fd) (T : SupX.SupTxt P K mg) (S : SubC K C fP) (na : NoAttr K C "torn") (nb : NoAttr K C "freed")
    (n : Nat) (FP : FnR P w K mg base CX0 (n + 3) fP (spPInit K n)) : FnOk P w K mg base CX0 (n + 4) f fd ["self", "torn", "freed"] (spIni K n C 2 "needed" ["torn", "freed"]) := by
  refine SupX.fn_super (N := ["self", "torn", "freed", "__class__"]) (p0 := _) (p1 := _) (apos := _) (cpos := _) (epos := _) (e0 := _) (es := _) (rest := _) SF T (show NdefX.NScope _ _ _ (defScope (inClass (top 9) 0)) from NdefX.nscope_by (by decide +kernel)) rfl rfl rfl rfl (fun _ => rfl) (fun _ => rfl) (fun _ => rfl) (fun vs H Q E h => ?_) (fun A outer s H vs Q E hr h => ?_)
  · obtain ⟨x, dx, us, ds, rfl, hl, _⟩ := h
    simp [hl]
  · obtain ⟨x, dx, us, ds, rfl, hl, hx, hd, hf, k⟩ := h
    match us, hl with
    | [a, b], _ =>
    refine ⟨x, C, dx, [], fP, spPInit K n, _, _, rfl, hx, S.mro, S.sup, S.ty, S.fn, FP, pa_cons pe_str (pa_cons (pv 1) (pa_cons (pv 2) pa_nil)), rfl, rfl,
      pss_one (ps_asg (pe_fld (pv 0) rfl) (pg_tup rfl (pgs_cons (pg_fld (pv 0)) (pgs_cons (pg_fld (pv 0)) pgs_nil)))), ?_⟩
    refine ⟨_, rfl, _, rfl,  x, C, dx, "needed", [a, b], ds, rfl, hx, S.cl, S.nW, S.nP, hd, by rw [← dpLen hd]; show 2 ≤ 1000; decide, hf, fun H' t xs b1 h1 h2 h3 => ?_⟩
    have hxl : xs.length = 2 := by
      rw [dpLen h3, List.length_map, ← dpLen hd]
      rfl
    match xs, hxl with
    | [y, z], _ =>
    refine ⟨_, rfl, x, C, dx, _, _, rfl, h1, S.cl, S.nP, rfl, t, [y, z], rfl, h2, rfl, y, [z], rfl, _, rfl, x, C, dx, _, rfl, h1, S.cl, na, (by show 2 < 1000; decide), ?_⟩
    refine ⟨z, [], rfl, _, rfl, x, C, dx, _, rfl, upd_same, S.cl, nb, (by show 3 < 1000; decide), ?_⟩
    refine ⟨rfl, ?_⟩
    refine k _ ((b1.trans ButX.upd).trans ButX.upd) ⟨dx, _, t, [y, z], upd_same, rfl, rfl, SqT.keep ((KeepT.ins h1).trans (KeepT.ins upd_same)) h2, Dp.keepTAll ((KeepT.ins h1).trans (KeepT.ins upd_same)) _ _ (tolds hf) h3, ?_, ?_⟩
    · intro i a v h1 h2
      match i, h1, h2 with
      | 0, h1, h2 => cases h1; cases h2; rfl
      | 1, h1, h2 => cases h1; cases h2; rfl
    · intro m m1 m2 m3
      simp only [lookup_putF]
      have m4 : ¬ m = "torn" := fun z => m3 (by simp [z])
      have m5 : ¬ m = "freed" := fun z => m3 (by simp [z])
      rw [if_neg m5, if_neg m4, if_neg m2, if_neg m1]
      rfl
theorem ok_dies {f cc c C fP : Addr} {fd : FuncData} (SF : SupX.SupFun P K (nfOf "Dies.__init__" (inClass (top 11) 0) [("__class__", cc)] c) f cc C fd) (T : SupX.SupTxt P K mg) (S : SubC K C fP) (na : NoAttr K C "run") (nb : NoAttr K C "rows")
    (n : Nat) (FP : FnR P w K mg base CX0 (n + 3) fP (spPInit K n)) : FnOk P w K mg base CX0 (n + 4) f fd ["self", "run", "rows"] (spIni K n C 2 "dies" ["run", "rows"]) := by
  refine SupX.fn_super (N := ["self", "run", "rows", "__class__"]) (p0 := _) (p1 := _) (apos := _) (cpos := _) (epos := _) (e0 := _) (es := _) (rest := _) SF T (show NdefX.NScope _ _ _ (defScope (inClass (top 11) 0)) from NdefX.nscope_by (by decide +kernel)) rfl rfl rfl rfl (fun _ => rfl) (fun _ => rfl) (fun _ => rfl) (fun vs H Q E h => ?_) (fun A outer s H vs Q E hr h => ?_)
  · obtain ⟨x, dx, us, ds, rfl, hl, _⟩ := h
    simp [hl]
  · obtain ⟨x, dx, us, ds, rfl, hl, hx, hd, hf, k⟩ := h
    match us, hl with
    | [a, b], _ =>
    refine ⟨x, C, dx, [], fP, spPInit K n, _, _, rfl, hx, S.mro, S.sup, S.ty, S.fn, FP, pa_cons pe_str (pa_cons (pv 1) (pa_cons (pv 2) pa_nil)), rfl, rfl,
      pss_one (ps_asg (pe_fld (pv 0) rfl) (pg_tup rfl (pgs_cons (pg_fld (pv 0)) (pgs_cons (pg_fld (pv 0)) pgs_nil)))), ?_⟩
    refine ⟨_, rfl, _, rfl,  x, C, dx, "dies", [a, b], ds, rfl, hx, S.cl, S.nW, S.nP, hd, by rw [← dpLen hd]; show 2 ≤ 1000; decide, hf, fun H' t xs b1 h1 h2 h3 => ?_⟩
    have hxl : xs.length = 2 := by
      rw [dpLen h3, List.length_map, ← dpLen hd]
      rfl
    match xs, hxl with
    | [y, z], _ =>
    refine ⟨_, rfl, x, C, dx, _, _, rfl, h1, S.cl, S.nP, rfl, t, [y, z], rfl, h2, rfl, y, [z], rfl, _, rfl, x, C, dx, _, rfl, h1, S.cl, na, (by show 2 < 1000; decide), ?_⟩
    refine ⟨z, [], rfl, _, rfl, x, C, dx, _, rfl, upd_same, S.cl, nb, (by show 3 < 1000; decide), ?_⟩
    refine ⟨rfl, ?_⟩
    refine k _ ((b1.trans ButX.upd).trans ButX.upd) ⟨dx, _, t, [y, z], upd_same, rfl, rfl, SqT.keep ((KeepT.ins h1).trans (KeepT.ins upd_same)) h2, Dp.keepTAll ((KeepT.ins h1).trans (KeepT.ins upd_same)) _ _ (tolds hf) h3, ?_, ?_⟩
    · intro i a v h1 h2
      match i, h1, h2 with
      | 0, h1, h2 => cases h1; cases h2; rfl
      | 1, h1, h2 => cases h1; cases h2; rfl
    · intro m m1 m2 m3
      simp only [lookup_putF]
      have m4 : ¬ m = "run" := fun z => m3 (by simp [z])
      have m5 : ¬ m = "rows" := fun z => m3 (by simp [z])
      rw [if_neg m5, if_neg m4, if_neg m2, if_neg m1]
      rfl
theorem ok_lives {f cc c C fP : Addr} {fd : FuncData} (SF : SupX.SupFun P K (nfOf "Lives.__init__" (inClass (top 12) 0) [("__class__", cc)] c) f cc C fd) (T : SupX.SupTxt P K mg) (S : SubC K C fP) (na : NoAttr K C "run") (nb : NoAttr K C "rows")
    (n : Nat) (FP : FnR P w K mg base CX0 (n + 3) fP (spPInit K n)) : FnOk P w K mg base CX0 (n + 4) f fd ["self", "run", "rows"] (spIni K n C 2 "lives" ["run", "rows"]) := by
  refine SupX.fn_super (N := ["self", "run", "rows", "__class__"]) (p0 := _) (p1 := _) (apos := _) (cpos := _) (epos := _) (e0 := _) (es := _) (rest := _) SF T (show NdefX.NScope _ _ _ (defScope (inClass (top 12) 0)) from NdefX.nscope_by (by decide +kernel)) rfl rfl rfl rfl (fun _ => rfl) (fun _ => rfl) (fun _ => rfl) (fun vs H Q E h => ?_) (fun A outer s H vs Q E hr h => ?_)
  · obtain ⟨x, dx, us, ds, rfl, hl, _⟩ := h
    simp [hl]
  · obtain ⟨x, dx, us, ds, rfl, hl, hx, hd, hf, k⟩ := h
    match us, hl with
    | [a, b], _ =>
    refine ⟨x, C, dx, [], fP, spPInit K n, _, _, rfl, hx, S.mro, S.sup, S.ty, S.fn, FP, pa_cons pe_str (pa_cons (pv 1) (pa_cons (pv 2) pa_nil)), rfl, rfl,
      pss_one (ps_asg (pe_fld (pv 0) rfl) (pg_tup rfl (pgs_cons (pg_fld (pv 0)) (pgs_cons (pg_fld (pv 0)) pgs_nil)))), ?_⟩
    refine ⟨_, rfl, _, rfl,  x, C, dx, "lives", [a, b], ds, rfl, hx, S.cl, S.nW, S.nP, hd, by rw [← dpLen hd]; show 2 ≤ 1000; decide, hf, fun H' t xs b1 h1 h2 h3 => ?_⟩
    have hxl : xs.length = 2 := by
      rw [dpLen h3, List.length_map, ← dpLen hd]
      rfl
    match xs, hxl with
    | [y, z], _ =>
    refine ⟨_, rfl, x, C, dx, _, _, rfl, h1, S.cl, S.nP, rfl, t, [y, z], rfl, h2, rfl, y, [z], rfl, _, rfl, x, C, dx, _, rfl, h1, S.cl, na, (by show 2 < 1000; decide), ?_⟩
    refine ⟨z, [], rfl, _, rfl, x, C, dx, _, rfl, upd_same, S.cl, nb, (by show 3 < 1000; decide), ?_⟩
    refine ⟨rfl, ?_⟩
    refine k _ ((b1.trans ButX.upd).trans ButX.upd) ⟨dx, _, t, [y, z], upd_same, rfl, rfl, SqT.keep ((KeepT.ins h1).trans (KeepT.ins upd_same)) h2, Dp.keepTAll ((KeepT.ins h1).trans (KeepT.ins upd_same)) _ _ (tolds hf) h3, ?_, ?_⟩
    · intro i a v h1 h2
      match i, h1, h2 with
      | 0, h1, h2 => cases h1; cases h2; rfl
      | 1, h1, h2 => cases h1; cases h2; rfl
    · intro m m1 m2 m3
      simp only [lookup_putF]
      have m4 : ¬ m = "run" := fun z => m3 (by simp [z])
      have m5 : ¬ m = "rows" := fun z => m3 (by simp [z])
      rw [if_neg m5, if_neg m4, if_neg m2, if_neg m1]
      rfl
theorem ok_both {f cc c C fP : Addr} {fd : FuncData} (SF : SupX.SupFun P K (nfOf "Both.__init__" (inClass (top 13) 0) [("__class__", cc)] c) f cc C fd) (T : SupX.SupTxt P K mg) (S : SubC K C fP) (na : NoAttr K C "run") (nb : NoAttr K C "other")
    (n : Nat) (FP : FnR P w K mg base CX0 (n + 3) fP (spPInit K n)) : FnOk P w K mg base CX0 (n + 4) f fd ["self", "run", "other"] (spIni K n C 2 "both" ["run", "other"]) := by
  refine SupX.fn_super (N := ["self", "run", "other", "__class__"]) (p0 := _) (p1 := _) (apos := _) (cpos := _) (epos := _) (e0 := _) (es := _) (rest := _) SF T (show NdefX.NScope _ _ _ (defScope (inClass (top 13) 0)) from NdefX.nscope_by (by decide +kernel)) rfl rfl rfl rfl (fun _ => rfl) (fun _ => rfl) (fun _ => rfl) (fun vs H Q E h => ?_) (fun A outer s H vs Q E hr h => ?_)
  · obtain ⟨x, dx, us, ds, rfl, hl, _⟩ := h
    simp [hl]
  · obtain ⟨x, dx, us, ds, rfl, hl, hx, hd, hf, k⟩ := h
    match us, hl with
    | [a, b], _ =>
    refine ⟨x, C, dx, [], fP, spPInit K n, _, _, rfl, hx, S.mro, S.sup, S.ty, S.fn, FP, pa_cons pe_str (pa_cons (pv 1) (pa_cons (pv 2) pa_nil)), rfl, rfl,
      pss_one (ps_asg (pe_fld (pv 0) rfl) (pg_tup rfl (pgs_cons (pg_fld (pv 0)) (pgs_cons (pg_fld (pv 0)) pgs_nil)))), ?_⟩
    refine ⟨_, rfl, _, rfl,  x, C, dx, "both", [a, b], ds, rfl, hx, S.cl, S.nW, S.nP, hd, by rw [← dpLen hd]; show 2 ≤ 1000; decide, hf, fun H' t xs b1 h1 h2 h3 => ?_⟩
    have hxl : xs.length = 2 := by
      rw [dpLen h3, List.length_map, ← dpLen hd]
      rfl
    match xs, hxl with
    | [y, z], _ =>
    refine ⟨_, rfl, x, C, dx, _, _, rfl, h1, S.cl, S.nP, rfl, t, [y, z], rfl, h2, rfl, y, [z], rfl, _, rfl, x, C, dx, _, rfl, h1, S.cl, na, (by show 2 < 1000; decide), ?_⟩
    refine ⟨z, [], rfl, _, rfl, x, C, dx, _, rfl, upd_same, S.cl, nb, (by show 3 < 1000; decide), ?_⟩
    refine ⟨rfl, ?_⟩
    refine k _ ((b1.trans ButX.upd).trans ButX.upd) ⟨dx, _, t, [y, z], upd_same, rfl, rfl, SqT.keep ((KeepT.ins h1).trans (KeepT.ins upd_same)) h2, Dp.keepTAll ((KeepT.ins h1).trans (KeepT.ins upd_same)) _ _ (tolds hf) h3, ?_, ?_⟩
    · intro i a v h1 h2
      match i, h1, h2 with
      | 0, h1, h2 => cases h1; cases h2; rfl
      | 1, h1, h2 => cases h1; cases h2; rfl
    · intro m m1 m2 m3
      simp only [lookup_putF]
      have m4 : ¬ m = "run" := fun z => m3 (by simp [z])
      have m5 : ¬ m = "other" := fun z => m3 (by simp [z])
      rw [if_neg m5, if_neg m4, if_neg m2, if_neg m1]
      rfl
theorem ok_deaths {f cc c C fP : Addr} {fd : FuncData} (SF : SupX.SupFun P K (nfOf "Deaths.__init__" (inClass (top 15) 0) [("__class__", cc)] c) f cc C fd) (T : SupX.SupTxt P K mg) (S : SubC K C fP) (na : NoAttr K C "spots") (nb : NoAttr K C "rows")
    (n : Nat) (FP : FnR P w K mg base CX0 (n + 3) fP (spPInit K n)) : FnOk P w K mg base CX0 (n + 4) f fd ["self", "spots", "rows"] (spIni K n C 2 "deaths" ["spots", "rows"]) := by
  refine SupX.fn_super (N := ["self", "spots", "rows", "__class__"]) (p0 := _) (p1 := _) (apos := _) (cpos := _) (epos := _) (e0 := _) (es := _) (rest := _) SF T (show NdefX.NScope _ _ _ (defScope (inClass (top 15) 0)) from NdefX.nscope_by (by decide +kernel)) rfl rfl rfl rfl (fun _ => rfl) (fun _ => rfl) (fun _ => rfl) (fun vs H Q E h => ?_) (fun A outer s H vs Q E hr h => ?_)
  · obtain ⟨x, dx, us, ds, rfl, hl, _⟩ := h
    simp [hl]
  · obtain ⟨x, dx, us, ds, rfl, hl, hx, hd, hf, k⟩ := h
    match us, hl with
    | [a, b], _ =>
    refine ⟨x, C, dx, [], fP, spPInit K n, _, _, rfl, hx, S.mro, S.sup, S.ty, S.fn, FP, pa_cons pe_str (pa_cons (pv 1) (pa_cons (pv 2) pa_nil)), rfl, rfl,
      pss_one (ps_asg (pe_fld (pv 0) rfl) (pg_tup rfl (pgs_cons (pg_fld (pv 0)) (pgs_cons (pg_fld (pv 0)) pgs_nil)))), ?_⟩
    refine ⟨_, rfl, _, rfl,  x, C, dx, "deaths", [a, b], ds, rfl, hx, S.cl, S.nW, S.nP, hd, by rw [← dpLen hd]; show 2 ≤ 1000; decide, hf, fun H' t xs b1 h1 h2 h3 => ?_⟩
    have hxl : xs.length = 2 := by
      rw [dpLen h3, List.length_map, ← dpLen hd]
      rfl
    match xs, hxl with
    | [y, z], _ =>
    refine ⟨_, rfl, x, C, dx, _, _, rfl, h1, S.cl, S.nP, rfl, t, [y, z], rfl, h2, rfl, y, [z], rfl, _, rfl, x, C, dx, _, rfl, h1, S.cl, na, (by show 2 < 1000; decide), ?_⟩
    refine ⟨z, [], rfl, _, rfl, x, C, dx, _, rfl, upd_same, S.cl, nb, (by show 3 < 1000; decide), ?_⟩
    refine ⟨rfl, ?_⟩
    refine k _ ((b1.trans ButX.upd).trans ButX.upd) ⟨dx, _, t, [y, z], upd_same, rfl, rfl, SqT.keep ((KeepT.ins h1).trans (KeepT.ins upd_same)) h2, Dp.keepTAll ((KeepT.ins h1).trans (KeepT.ins upd_same)) _ _ (tolds hf) h3, ?_, ?_⟩
    · intro i a v h1 h2
      match i, h1, h2 with
      | 0, h1, h2 => cases h1; cases h2; rfl
      | 1, h1, h2 => cases h1; cases h2; rfl
    · intro m m1 m2 m3
      simp only [lookup_putF]
      have m4 : ¬ m = "spots" := fun z => m3 (by simp [z])
      have m5 : ¬ m = "rows" := fun z => m3 (by simp [z])
      rw [if_neg m5, if_neg m4, if_neg m2, if_neg m1]
      rfl
theorem ok_unmet {f cc c C fP : Addr} {fd : FuncData} (SF : SupX.SupFun P K (nfOf "Unmet.__init__" (inClass (top 14) 0) [("__class__", cc)] c) f cc C fd) (T : SupX.SupTxt P K mg) (S : SubC K C fP) (na : NoAttr K C "rows")
    (n : Nat) (FP : FnR P w K mg base CX0 (n + 3) fP (spPInit K n)) : FnOk P w K mg base CX0 (n + 4) f fd ["self", "rows"] (spIni K n C 1 "unmet" ["rows"]) := by
  refine SupX.fn_super (N := ["self", "rows", "__class__"]) (p0 := _) (p1 := _) (apos := _) (cpos := _) (epos := _) (e0 := _) (es := _) (rest := _) SF T (show NdefX.NScope _ _ _ (defScope (inClass (top 14) 0)) from NdefX.nscope_by (by decide +kernel)) rfl rfl rfl rfl (fun _ => rfl) (fun _ => rfl) (fun _ => rfl) (fun vs H Q E h => ?_) (fun A outer s H vs Q E hr h => ?_)
  · obtain ⟨x, dx, us, ds, rfl, hl, _⟩ := h
    simp [hl]
  · obtain ⟨x, dx, us, ds, rfl, hl, hx, hd, hf, k⟩ := h
    match us, hl with
    | [a], _ =>
    refine ⟨x, C, dx, [], fP, spPInit K n, _, _, rfl, hx, S.mro, S.sup, S.ty, S.fn, FP, pa_cons pe_str (pa_cons (pv 1) pa_nil), rfl, rfl,
      pss_one (ps_fld (pv 0) (pe_ix ix_tup (pe_fld (pv 0) rfl) pe_int fun _ _ => rfl) rfl), ?_⟩
    refine ⟨_, rfl, x, C, dx, "unmet", [a], ds, rfl, hx, S.cl, S.nW, S.nP, hd, by rw [← dpLen hd]; show 1 ≤ 1000; decide, hf, fun H' t xs b1 h1 h2 h3 => ?_⟩
    have hxl : xs.length = 1 := by
      rw [dpLen h3, List.length_map, ← dpLen hd]
      rfl
    match xs, hxl with
    | [y], _ =>
    refine ⟨_, rfl, x, C, dx, _, _, rfl, h1, S.cl, S.nP, rfl, t, [y], 0, y, rfl, rfl, h2, rfl, _, rfl, x, C, dx, _, rfl, h1, S.cl, na, (by show 2 < 1000; decide), ?_⟩
    refine k _ (b1.trans ButX.upd) ⟨dx, _, t, [y], upd_same, rfl, rfl, SqT.keep (KeepT.ins h1) h2, Dp.keepTAll (KeepT.ins h1) _ _ (tolds hf) h3, ?_, ?_⟩
    · intro i a v h1 h2
      match i, h1, h2 with
      | 0, h1, h2 => cases h1; cases h2; rfl
    · intro m m1 m2 m3
      simp only [lookup_putF]
      have m4 : ¬ m = "rows" := fun z => m3 (by simp [z])
      rw [if_neg m4, if_neg m2, if_neg m1]
      rfl
end
end P45

/-! k45: Needed.counted; the pen and what is drawn with it. -/
namespace P45
open PySem L2 M45
abbrev sPen : Stmt := top 17
abbrev sDraw : Stmt := top 18
abbrev sPick : Stmt := top 19
abbrev sAny : Stmt := top 20
abbrev sCount : Stmt := inClass (top 9) 1
/-- the pen at p -/
def Pen (p : Addr) (H : Hp) : Prop := ∃ n : Int, H p = some (.lst [.int n]) ∧ 0 ≤ n ∧ n < 2 ^ 64
/-- what H' has where H has nothing -/
def Nw (H H' : Hp) : Hp := fun a => match H a with
  | none => H' a
  | some _ => none
theorem nw_some {H H' : Hp} {a : Addr} {o : HO} (h : Nw H H' a = some o) : H a = none ∧ H' a = some o := by
  unfold Nw at h
  cases e : H a with
  | none => rw [e] at h; exact ⟨rfl, h⟩
  | some u => rw [e] at h; cases h
theorem nw_of {H H' : Hp} {a : Addr} {o : HO} (e : H a = none) (h : H' a = some o) : Nw H H' a = some o := by
  unfold Nw
  rw [e]
  exact h
/-- what grows, but at p -/
theorem nw_step {p : Addr} {H H1 H2 : Hp} (hp : H p ≠ none) (b : ButX p H1 H2) : Ext (Nw H H1) (Nw H H2) := fun a o h => by
  obtain ⟨h1, h2⟩ := nw_some h
  exact nw_of h1 (b a o (fun z => hp (by rw [← z]; exact h1)) h2)
theorem nw_upd {H H1 : Hp} {D : Addr} {o : HO} (hD : H D ≠ none) : Ext (Nw H H1) (Nw H (upd H1 D o)) := fun a u h => by
  obtain ⟨h1, h2⟩ := nw_some h
  exact nw_of h1 (by rw [upd_ne (fun z => hD (by rw [← z]; exact h1))]; exact h2)
theorem nw_new {H H1 : Hp} {D : Addr} {o : HO} (hD : H1 D = none) : Ext (Nw H H1) (Nw H (upd H1 D o)) := fun a u h => by
  obtain ⟨h1, h2⟩ := nw_some h
  exact nw_of h1 (by rw [upd_ne (ne_of_none h2 hD)]; exact h2)
theorem nw_old {H H0 H1 : Hp} (h : ∀ a, H0 a = none → H a = none) : Ext (Nw H0 H1) (Nw H H1) := fun a u q => by
  obtain ⟨h1, h2⟩ := nw_some q
  exact nw_of (h a h1) h2
theorem ButX.rfl' {x : Addr} {H : Hp} : ButX x H H := fun _ _ _ h => h
theorem ButX.dom {x : Addr} {H H' : Hp} (b : ButX x H H') (hx : H' x ≠ none) : ∀ a, H' a = none → H a = none := fun a h => by
  cases e : H a with
  | none => rfl
  | some o =>
    by_cases q : a = x
    · subst q
      exact absurd h hx
    · rw [b a o q e] at h
      cases h
theorem Pen.ne {p : Addr} {H : Hp} (h : Pen p H) : H p ≠ none := by
  obtain ⟨n, e, _⟩ := h
  rw [e]
  exact fun z => by cases z
/-- the script, ints -/
def spPen (K : PySem.W.Frag) : Sp := fun vs H Q _ => ∃ (a : Addr) (ns : List Int), vs = [.ref a] ∧ SqL K H a (ns.map V.int) ∧ ∀ (n : Int) (p : Addr), 0 ≤ n → n < 2 ^ 64 → H p = none → Q (.ref p) (upd H p (.lst [.int n]))
/-- a number below many -/
def spDraw : Sp := fun vs H Q _ => ∃ (p : Addr) (many : Int), vs = [.ref p, .int many] ∧ 1 ≤ many ∧ Pen p H ∧ ∀ (r : Int) (H' : Hp), 0 ≤ r → r < many → ButX p H H' → Pen p H' → (∀ a, H' a = none → H a = none) → Q (.int r) H'
/-- an item of a list -/
def spPick : Sp := fun vs H Q _ => ∃ (p l : Addr) (xs : List V), vs = [.ref p, .ref l] ∧ Pen p H ∧ H l = some (.lst xs) ∧ l ≠ p ∧ 1 ≤ xs.length ∧ xs.length ≤ 1000 ∧ ∀ (v : V) (H' : Hp), v ∈ xs → ButX p H H' → Pen p H' → (∀ a, H' a = none → H a = none) → Q v H'
/-- drawn data, n deep at most, laid where nothing stood -/
def spAny (K : PySem.W.Frag) (n : Nat) : Sp := fun vs H Q _ => ∃ p : Addr, vs = [.ref p, .int (n : Int)] ∧ Pen p H ∧ ∀ (v : V) (d : PyData) (H' : Hp), Dr n d → Dp K (Nw H H') v d → ButX p H H' → Pen p H' → Q v H'
section
variable {P : Program} {w : World} {K : PySem.W.Frag} {mg : Str → Option Value} {base : Heap}
theorem scPn : FnScope ["script", "seed", "cell"] ["script"] (defScope sPen) := ⟨rfl, rfl, rfl, by decide +kernel, rfl, by decide +kernel, by decide +kernel⟩
theorem ok_pen {f : Addr} {fd : FuncData} (F : Fun K "_law_pen" "_law_pen" sPen f fd) (B : Bl mg) : FnOk P w K mg base CX0 1 f fd ["script"] (spPen K) := by
  refine F.ok scPn (fun vs H Q E h => ?_) (fun cdv A outer s H vs Q E hr h => ?_)
  · obtain ⟨a, ns, rfl, _⟩ := h
    rfl
  · obtain ⟨a, ns, rfl, ha, k⟩ := h
    refine ⟨_, pss_cons (ps_set (i := 1) scPn.nd rfl (Or.inl rfl) pe_int) (pss_cons (ps_for PassesOwn.never rfl (pi_list (pv 0)) (pg_name (i := 2) scPn.nd rfl (Or.inl rfl))
      (pss_one (ps_set (i := 1) scPn.nd rfl (Or.inl rfl) (pe_op op_mod (pe_callTy call_int1 (by rfl) B.int (by decide +kernel) (pa_cons
        (pe_op op_add (pe_op op_add (pe_op op_mul (pv 1) pe_int) (pe_op op_mod (pe_callTy call_int1 (by rfl) B.int (by decide +kernel) (pa_cons (pv 2) pa_nil)) (pe_op op_pow pe_int pe_int))) pe_int) pa_nil))
        (pe_op op_sub (pe_op op_pow pe_int pe_int) pe_int)))))
      (pss_one (ps_ret (pe_lst (pa_cons (pv 1) pa_nil))))), ?_⟩
    refine ⟨_, rfl, a, rfl, ⟨_, ha⟩, for_list (K := K) (a := a) (xs := ns.map V.int) (fun i σ H' => H' = H ∧ ∃ (n : Int) (c : Option V), σ = [some (.ref a), some (.int n), c] ∧ 0 ≤ n ∧ n < 2 ^ 61) ⟨rfl, 80728, none, rfl, by decide, by decide⟩ ?_ ?_ ?_⟩
    · rintro i σ H' hi ⟨rfl, _⟩
      exact ha
    · rintro i x σ H' hx ⟨rfl, n, c, rfl, h3, h4⟩
      have hx' := List.mem_of_getElem? hx
      obtain ⟨m, _, rfl⟩ := List.mem_map.mp hx'
      refine ⟨_, rfl, _, _, rfl, rfl, .inl ⟨by omega, by omega⟩, _, rfl, .inl ⟨m, rfl, _, _, rfl, rfl, ⟨by decide, by decide, by decide⟩, _, _, rfl, rfl, (show (0 : Int) < 10 ^ 18 by decide), _, _, rfl, rfl, _, _, rfl, rfl, .inl ⟨_, rfl, ?_⟩⟩⟩
      refine ⟨_, _, rfl, rfl, ⟨by decide, by decide, by decide⟩, _, _, rfl, rfl, _, _, rfl, rfl, (show (0 : Int) < 2 ^ 61 - 1 by decide), rfl, _, some (.int m), rfl, ?_, ?_⟩
      · exact Int.emod_nonneg _ (by decide)
      · refine Int.lt_trans (Int.emod_lt_of_pos _ (by decide)) (by decide)
    · rintro σ H' ⟨rfl, n, c, rfl, h3, h4⟩
      refine ⟨_, rfl, (by show 1 ≤ sizeLine; decide), fun p hp => k n p h3 (by omega) hp⟩
theorem scDw : FnScope ["pen", "many"] ["pen", "many"] (defScope sDraw) := ⟨rfl, rfl, rfl, by decide +kernel, rfl, by decide +kernel, by decide +kernel⟩
theorem ok_draw {f : Addr} {fd : FuncData} (F : Fun K "_law_draw" "_law_draw" sDraw f fd) (B : Bl mg) : FnOk P w K mg base CX0 1 f fd ["pen", "many"] spDraw := by
  refine F.ok scDw (fun vs H Q E h => ?_) (fun cdv A outer s H vs Q E hr h => ?_)
  · obtain ⟨p, m, rfl, _⟩ := h
    rfl
  · obtain ⟨p, m, rfl, hm, ⟨n, hp, h0, h1⟩, k⟩ := h
    refine ⟨_, pss_cons (ps_if (pt_cmp (pc_lt (pv 1) pe_int)) pss_never pss_nil) (pss_cons (ps_asg (pe_op op_mod (pe_callTy call_int1 (by rfl) B.int (by decide +kernel) (pa_cons (pe_op op_add (pe_op op_mul (pe_ix ix_list (pv 0) pe_int fun _ _ => rfl) pe_int) pe_int) pa_nil))
        (pe_op op_pow pe_int pe_int)) (pg_sub (pv 0) pe_int set_list))
      (pss_one (ps_ret (pe_op op_mod (pe_callTy call_int1 (by rfl) B.int (by decide +kernel) (pa_cons (pe_op op_fdiv (pe_ix ix_list (pv 0) pe_int fun _ _ => rfl) pe_int) pa_nil)) (pv 1))))), ?_⟩
    have em : decide (m < 1) = false := decide_eq_false (by omega)
    refine ⟨_, rfl, m, 1, rfl, rfl, false, congrArg V.bl em, iteF ?_⟩
    refine ⟨_, rfl, p, [.int n], 0, .int n, rfl, rfl, SqL.of hp, rfl, _, _, rfl, rfl, .inr ⟨by decide, by decide⟩, _, _, rfl, rfl, .inl ⟨_, rfl, _, _, rfl, rfl, ⟨by decide, by decide, by decide⟩, _, _, rfl, rfl, (show (0 : Int) < 2 ^ 64 by decide), ?_⟩⟩
    refine ⟨_, rfl, p, [.int n], 0, 0, rfl, rfl, hp, rfl, ?_⟩
    refine ⟨_, rfl, p, _, 0, _, rfl, rfl, SqL.of upd_same, rfl, _, _, rfl, rfl, ⟨by decide, by decide⟩, .inl ⟨_, rfl, _, rfl, _, _, rfl, rfl, (by omega), ?_⟩⟩
    refine k _ _ (Int.emod_nonneg _ (by omega)) (Int.emod_lt_of_pos _ (by omega)) ButX.upd ⟨_, upd_same, Int.emod_nonneg _ (by decide), Int.emod_lt_of_pos _ (by decide)⟩ fun a ha => ?_
    by_cases q : a = p
    · subst q
      rw [upd_same] at ha
      cases ha
    · rwa [upd_ne q] at ha
theorem scPk : FnScope ["pen", "some"] ["pen", "some"] (defScope sPick) := ⟨rfl, rfl, rfl, by decide +kernel, rfl, by decide +kernel, by decide +kernel⟩
theorem ok_pick {f fw : Addr} {fd fdw : FuncData} (F : Fun K "_law_pick" "_law_pick" sPick f fd) (B : Bl mg) (FW : Fun K "_law_draw" "_law_draw" sDraw fw fdw) (bw : Binds K fdw ["pen", "many"] []) (hg : mg "_law_draw" = some (.ref fw)) :
    FnOk P w K mg base CX0 2 f fd ["pen", "some"] spPick := by
  have G : FnOk P w K mg base CX0 1 fw fdw ["pen", "many"] spDraw := ok_draw FW B
  refine F.ok scPk (fun vs H Q E h => ?_) (fun cdv A outer s H vs Q E hr h => ?_)
  · obtain ⟨p, m, xs, rfl, _⟩ := h
    rfl
  · obtain ⟨p, l, xs, rfl, hp, hl, ne, l1, l2, k⟩ := h
    refine ⟨_, pss_one (ps_ret (pe_ix ix_list (pv 1) (pe_call G hr rfl hg FW.kp bw .nil pass0 (pa_cons (pv 0) (pa_cons (pe_callB call_len_seq (by rfl) B.len (by decide +kernel) (pa_cons (pv 1) pa_nil)) pa_nil))) fun _ _ => rfl)), ?_⟩
    refine ⟨_, rfl, _, rfl, _, rfl, l, xs, rfl, .inl (SqL.of hl), p, _, rfl, (by omega), hp, fun r H' r0 r1 b pn dm => ?_⟩
    obtain ⟨j, rfl⟩ : ∃ j : Nat, r = (j : Int) := ⟨r.toNat, by omega⟩
    have hj : j < xs.length := by omega
    refine ⟨l, xs, _, xs[j], rfl, rfl, SqL.of (b l _ ne hl), atI_nat (by simp [hj]), k _ _ (List.getElem_mem hj) b pn dm⟩
end
end P45

/-! k45: drawn data. -/
namespace P45
open PySem L2 M45
def leafVs : List V := [.non, .bl true, .bl false, .int 0, .int 1, .int (-5), .str "word", .str "", .str "leaf", .int (10 ^ 40)]
theorem leafVs_dp {K : PySem.W.Frag} {v : V} (h : v ∈ leafVs) : ∃ d, d ∈ leaves ∧ ∀ H, Dp K H v d := by
  unfold leafVs at h
  simp only [List.mem_cons, List.not_mem_nil, or_false] at h
  rcases h with rfl | rfl | rfl | rfl | rfl | rfl | rfl | rfl | rfl | rfl
  · exact ⟨.none, by simp [leaves], fun _ => .non⟩
  · exact ⟨.bool true, by simp [leaves], fun _ => .bl true⟩
  · exact ⟨.bool false, by simp [leaves], fun _ => .bl false⟩
  · exact ⟨.int 0, by simp [leaves], fun _ => .int 0⟩
  · exact ⟨.int 1, by simp [leaves], fun _ => .int 1⟩
  · exact ⟨.int (-5), by simp [leaves], fun _ => .int (-5)⟩
  · exact ⟨.str "word", by simp [leaves], fun _ => .str "word"⟩
  · exact ⟨.str "", by simp [leaves], fun _ => .str ""⟩
  · exact ⟨.str "leaf", by simp [leaves], fun _ => .str "leaf"⟩
  · exact ⟨.int (10 ^ 40), by simp [leaves], fun _ => .int (10 ^ 40)⟩
/-- what a comprehension that draws keeps: D the list that is made, p the pen -/
def Drawing (K : PySem.W.Frag) (n : Nat) (p : Addr) (H1 : Hp) (D : Addr) (i : Nat) (H2 : Hp) : Prop := ∃ ys ds, H2 D = some (.lst ys) ∧ ds.length = i ∧ (∀ d ∈ ds, Dr n d) ∧ DpAll K (Nw (upd H1 D (.lst [])) H2) ys ds ∧ ButX p H1 H2 ∧ Pen p H2 ∧ H2 D ≠ none
section
variable {K : PySem.W.Frag} {n i : Nat} {p D : Addr} {H1 H2 H3 : Hp}
theorem Drawing.start (hp : Pen p H1) (h : H1 D = none) : Drawing K n p H1 D 0 (upd H1 D (.lst [])) := by
  have ne : p ≠ D := by
    obtain ⟨k, e, _⟩ := hp
    exact ne_of_none e h
  refine ⟨[], [], upd_same, rfl, fun d h => (nomatch h), .nil, fun a o _ ha => by rw [upd_ne (ne_of_none ha h)]; exact ha, ?_, by rw [upd_same]; exact fun z => (by cases z)⟩
  obtain ⟨k, e, h0, h1⟩ := hp
  exact ⟨k, by rw [upd_ne ne]; exact e, h0, h1⟩
theorem pen_ne (hp : Pen p H1) (h : H1 D = none) : D ≠ p := by
  rintro rfl
  exact hp.ne h
theorem Drawing.turn {v : V} {d : PyData} (q : Drawing K n p H1 D i H2) (hp : Pen p H1) (hD : H1 D = none) (hi : i ≤ 1000) (hd : Dr n d) (hv : Dp K (Nw H2 H3) v d) (b : ButX p H2 H3) (pn : Pen p H3) :
    ∃ acc, H3 D = some (.lst acc) ∧ acc.length < sizeLine ∧ Drawing K n p H1 D (i + 1) (upd H3 D (.lst (acc ++ [v]))) := by
  have ne := pen_ne hp hD
  obtain ⟨ys, ds, h1, h2, h3, h4, h5, h6, h7⟩ := q
  have e3 : H3 D = some (.lst ys) := b D _ ne h1
  have pD : upd H1 D (.lst []) p ≠ none := by
    rw [upd_ne (Ne.symm ne)]
    exact hp.ne
  have DD : upd H1 D (.lst []) D ≠ none := by
    rw [upd_same]
    exact fun z => by cases z
  have hl := dpLen h4
  refine ⟨ys, e3, small (by omega), ys ++ [v], ds ++ [d], upd_same, by simp [h2], ?_, ?_, ?_, ?_, ?_⟩
  · intro x hx
    rcases List.mem_append.mp hx with hx | hx
    · exact h3 x hx
    · have : x = d := by simpa using hx
      subst this
      exact hd
  · refine dpApp (Dp.ext (nw_upd DD) _ _ (Dp.ext (nw_old fun a ha => ?_) _ _ hv)) (Dp.extAll (nw_upd DD) _ _ (Dp.extAll (nw_step pD b) _ _ h4))
    have q : a ≠ D := fun z => h7 (by rw [← z]; exact ha)
    rw [upd_ne q]
    exact h5.dom h6.ne a ha
  · intro a o na ha
    rw [upd_ne (ne_of_none ha hD)]
    exact b a o na (h5 a o na ha)
  · obtain ⟨k, e, h0, h1⟩ := pn
    exact ⟨k, by rw [upd_ne (Ne.symm ne)]; exact e, h0, h1⟩
  · rw [upd_same]
    exact fun z => by cases z
theorem Drawing.list (q : Drawing K n p H1 D i H2) (hp : Pen p H1) (hD : H1 D = none) : ∃ ys ds, H2 D = some (.lst ys) ∧ ds.length = i ∧ (∀ d ∈ ds, Dr n d) ∧ ButX p H1 H2 ∧ Pen p H2 ∧ DpAll K (Nw H1 H2) ys ds ∧ Dp K (Nw H1 H2) (.ref D) (.list ds) := by
  have ne := pen_ne hp hD
  obtain ⟨ys, ds, h1, h2, h3, h4, h5, h6, h7⟩ := q
  have e : Ext (Nw (upd H1 D (.lst [])) H2) (Nw H1 H2) := nw_old fun a ha => by
    by_cases z : a = D
    · rw [z]; exact hD
    · rwa [upd_ne z] at ha
  exact ⟨ys, ds, h1, h2, h3, h5, h6, Dp.extAll e _ _ h4, .lst (SqL.of (nw_of hD h1)) (Dp.extAll e _ _ h4)⟩
end
section
variable {P : Program} {w : World} {K : PySem.W.Frag} {mg : Str → Option Value} {base : Heap}
theorem scAny : FnScope ["pen", "deep", "way", "some", "turn"] ["pen", "deep"] (defScope sAny) := ⟨rfl, rfl, rfl, by decide +kernel, rfl, by decide +kernel, by decide +kernel⟩
/-- the names that the drawing defs call -/
structure DrawN (K : PySem.W.Frag) (mg : Str → Option Value) (fw fp : Addr) (fdw fdp : FuncData) : Prop where
  bl : Bl mg
  w : Fun K "_law_draw" "_law_draw" sDraw fw fdw
  bw : Binds K fdw ["pen", "many"] []
  gw : mg "_law_draw" = some (.ref fw)
  p : Fun K "_law_pick" "_law_pick" sPick fp fdp
  bp : Binds K fdp ["pen", "some"] []
  gp : mg "_law_pick" = some (.ref fp)
theorem any_pick {n : Nat} {p l : Addr} {H H1 : Hp} {Q : VK} {E : XK} (p1 : Pen p H1) (b1 : ButX p H H1) (hl : H1 l = none)
    (k : ∀ (v : V) (d : PyData) (H' : Hp), Dr n d → Dp K (Nw H H') v d → ButX p H H' → Pen p H' → Q v H') : spPick [.ref p, .ref l] (upd H1 l (.lst leafVs)) Q E := by
  have ne := pen_ne p1 hl
  have p2 : Pen p (upd H1 l (.lst leafVs)) := by
    obtain ⟨m, e, h0, h1⟩ := p1
    exact ⟨m, by rw [upd_ne (Ne.symm ne)]; exact e, h0, h1⟩
  refine ⟨p, l, leafVs, rfl, p2, upd_same, ne, by decide, by decide, fun v H' hv b2 p3 _ => ?_⟩
  obtain ⟨d, h1, h2⟩ := leafVs_dp (K := K) hv
  exact k v d H' (.leaf h1) (h2 _) (b1.trans ((ButX.of (Ext.upd hl)).trans b2)) p3
theorem ok_any {f fw fp : Addr} {fd fdw fdp : FuncData} (F : Fun K "_law_d_any" "_law_d_any" sAny f fd) (b : Binds K fd ["pen", "deep"] []) (hg : mg "_law_d_any" = some (.ref f)) (N : DrawN K mg fw fp fdw fdp) :
    ∀ n, n ≤ 50 → FnOk P w K mg base CX0 (n + 3) f fd ["pen", "deep"] (spAny K n) := by
  intro n
  induction n with
  | zero =>
    intro _
    have GW : FnOk P w K mg base CX0 2 fw fdw ["pen", "many"] spDraw := (ok_draw N.w N.bl).mono (by omega)
    have GP : FnOk P w K mg base CX0 2 fp fdp ["pen", "some"] spPick := ok_pick N.p N.bl N.w N.bw N.gw
    refine F.ok scAny (fun vs H Q E h => ?_) (fun cdv A outer s H vs Q E hr h => ?_)
    · obtain ⟨p, rfl, _⟩ := h
      rfl
    · obtain ⟨p, rfl, hp, k⟩ := h
      refine ⟨_, pss_cons (ps_set (i := 2) scAny.nd rfl (Or.inl rfl) (pe_call GW hr rfl N.gw N.w.kp N.bw .nil pass0 (pa_cons (pv 0) (pa_cons pe_int pa_nil))))
        (pss_cons (ps_if (PW.pt (pw_or (pt_cmp (pc_lt (pv 2) pe_int)) (pw_or1 (pt_cmp (pc_eqI (pv 1) pe_int)))))
          (pss_one (ps_ret (pe_call GP hr rfl N.gp N.p.kp N.bp .nil pass0 (pa_cons (pv 0) (pa_cons (pe_lst (pa_cons pe_non (pa_cons pe_bl (pa_cons pe_bl (pa_cons pe_int (pa_cons pe_int (pa_cons (pe_un un_neg pe_int) (pa_cons pe_str (pa_cons pe_str (pa_cons pe_str (pa_cons (pe_op op_pow pe_int pe_int) pa_nil))))))))))) pa_nil)))))
          pss_nil) pss_never), ?_⟩
      refine ⟨_, rfl, p, 9, rfl, (by decide), hp, fun r H1 r0 r1 b1 p1 d1 => ?_⟩
      refine ⟨_, rfl, r, 7, rfl, rfl, decide (r < 7), rfl, ?_⟩
      have pick : ∀ l, H1 l = none → spPick [.ref p, .ref l] (upd H1 l (.lst leafVs)) Q E0 := fun l hl => any_pick p1 b1 hl k
      cases hc : decide (r < 7) with
      | true => exact iteT (iteT ⟨_, rfl, 5, rfl, _, _, rfl, rfl, ⟨by decide, by decide, by decide⟩, (by show 10 ≤ sizeLine; decide), fun l hl => pick l hl⟩)
      | false =>
        refine iteF ⟨_, rfl, _, _, rfl, rfl, true, rfl, iteT ?_⟩
        exact ⟨_, rfl, 5, rfl, _, _, rfl, rfl, ⟨by decide, by decide, by decide⟩, (by show 10 ≤ sizeLine; decide), fun l hl => pick l hl⟩
  | succ n ih =>
    intro hn
    have GW : FnOk P w K mg base CX0 (n + 3) fw fdw ["pen", "many"] spDraw := (ok_draw N.w N.bl).mono (by omega)
    have GP : FnOk P w K mg base CX0 (n + 3) fp fdp ["pen", "some"] spPick := (ok_pick N.p N.bl N.w N.bw N.gw).mono (by omega)
    have GA : FnOk P w K mg base CX0 (n + 3) f fd ["pen", "deep"] (spAny K n) := ih (by omega)
    refine F.ok scAny (fun vs H Q E h => ?_) (fun cdv A outer s H vs Q E hr h => ?_)
    · obtain ⟨p, rfl, _⟩ := h
      rfl
    · obtain ⟨p, rfl, hp, k⟩ := h
      refine ⟨_, pss_cons (ps_set (i := 2) scAny.nd rfl (Or.inl rfl) (pe_call GW hr rfl N.gw N.w.kp N.bw .nil pass0 (pa_cons (pv 0) (pa_cons pe_int pa_nil))))
        (pss_cons (ps_if (PW.pt (pw_or (pt_cmp (pc_lt (pv 2) pe_int)) (pw_or1 (pt_cmp (pc_eqI (pv 1) pe_int)))))
          (pss_one (ps_ret (pe_call GP hr rfl N.gp N.p.kp N.bp .nil pass0 (pa_cons (pv 0) (pa_cons (pe_lst (pa_cons pe_non (pa_cons pe_bl (pa_cons pe_bl (pa_cons pe_int (pa_cons pe_int (pa_cons (pe_un un_neg pe_int) (pa_cons pe_str (pa_cons pe_str (pa_cons pe_str (pa_cons (pe_op op_pow pe_int pe_int) pa_nil))))))))))) pa_nil)))))
          pss_nil) (pss_cons (ps_setLc (i := 3) (own := [("turn", 4)]) (g := gName 4) (tt := tYes) rfl scAny.nd rfl rfl (sw_true rfl rfl rfl rfl)
            (pi_range1 rfl N.bl.rng (pa_cons (pe_call GW hr rfl N.gw N.w.kp N.bw .nil pass0 (pa_cons (pv 0) (pa_cons pe_int pa_nil))) pa_nil))
            (blkOk_by (N := ["pen", "deep", "way", "some", "turn"]) (sc := defScope sAny) (by decide +kernel)) (fun _ _ _ _ _ => pg_name (i := 4) scAny.nd rfl (Or.inl rfl)) (fun _ _ _ _ _ => pts_nil)
            (fun _ _ _ _ _ => pe_call GA hr rfl hg F.kp b .nil pass0 (pa_cons (pv 0) (pa_cons (pe_op op_sub (pv 1) pe_int) pa_nil))))
          (pss_one (ps_ret (pe_ifExp (pt_cmp (pc_eqI (pv 2) pe_int)) (pv 3) (pe_callTy call_tuple_of (by rfl) N.bl.tup (by decide +kernel) (pa_cons (pv 3) pa_nil))))))), ?_⟩
      refine ⟨_, rfl, p, 9, rfl, (by decide), hp, fun r H1 r0 r1 b1 p1 d1 => ?_⟩
      refine ⟨_, rfl, r, 7, rfl, rfl, decide (r < 7), rfl, ?_⟩
      have pick : ∀ l, H1 l = none → spPick [.ref p, .ref l] (upd H1 l (.lst leafVs)) Q E0 := fun l hl => any_pick p1 b1 hl k
      cases hc : decide (r < 7) with
      | true => exact iteT (iteT ⟨_, rfl, 5, rfl, _, _, rfl, rfl, ⟨by decide, by decide, by decide⟩, (by show 10 ≤ sizeLine; decide), fun l hl => pick l hl⟩)
      | false =>
        have en : decide (((n + 1 : Nat) : Int) = 0) = false := decide_eq_false (by omega)
        refine iteF ⟨_, rfl, _, _, rfl, rfl, false, congrArg V.bl en, iteF ?_⟩
        refine ⟨_, rfl, p, 3, rfl, (by decide), p1, fun c H2 c0 c1 b2 p2 d2 => ?_⟩
        refine ⟨c, rfl, (by omega), (by omega), fun D hD => lc_range (Drawing K n p H2 D) (Drawing.start p2 hD) ?_ ?_⟩
        · intro i H3 hi q
          have p3 : Pen p H3 := by
            obtain ⟨ys, ds, _, _, _, _, _, z, _⟩ := id q
            exact z
          refine ⟨rfl, _, rfl, _, rfl, _, _, rfl, rfl, p, ?_, p3, fun v d H4 hd hv b4 p4 => ?_⟩
          · show [V.ref p, V.int (((n + 1 : Nat) : Int) - 1)] = [V.ref p, V.int (n : Int)]
            rw [show ((n + 1 : Nat) : Int) - 1 = (n : Int) by omega]
          · exact q.turn p2 hD (by omega) hd hv b4 p4
        · intro H3 q
          obtain ⟨ys, ds, e1, e2, e3, e4, e5, e6, e7⟩ := q.list p2 hD
          have dm : ∀ a, H2 a = none → H a = none := fun a ha => b1.dom p1.ne a (d2 a ha)
          have hlen : ds.length ≤ 2 := by omega
          refine ⟨_, rfl, _, _, rfl, rfl, decide (r = 7), rfl, ?_⟩
          cases h7 : decide (r = 7) with
          | true => exact iteT ⟨_, rfl, k _ _ _ (.list hlen e3) (Dp.ext (nw_old dm) _ _ e7) (b1.trans (b2.trans e4)) e5⟩
          | false =>
            refine iteF ⟨_, rfl, D, ys, rfl, .inl ⟨SqL.of e1, fun l hl => ?_⟩⟩
            refine k _ _ _ (.tuple hlen e3) (.tup (SqT.of (nw_of ?_ upd_same)) (Dp.extAll (nw_new hl) _ _ (Dp.extAll (nw_old dm) _ _ e6))) (b1.trans (b2.trans (e4.trans (ButX.of (Ext.upd hl))))) ?_
            · exact dm l (e4.dom e5.ne l hl)
            · obtain ⟨m, z, z0, z1⟩ := e5
              exact ⟨m, by rw [upd_ne (ne_of_none z hl)]; exact z, z0, z1⟩
end
end P45

/-! k45: making papers; Needed.counted. -/
namespace P45
open PySem L2 M45
/-- a class of papers, as the law uses it -/
structure PaperC (P : Program) (w : World) (K : PySem.W.Frag) (mg : Str → Option Value) (base : Heap) (CP fEq : Addr) (C : Addr) (nm word : Str) (as : List Str) : Prop where
  made : ∃ (f : Addr) (fd : FuncData), Mk K C f ∧ FnOk P w K mg base CX0 6 f fd ("self" :: as) (spIni K 2 C as.length word as) ∧ Binds K fd ("self" :: as) [] ∧ KBn K fd ("self" :: as) 1 as.reverse (fun us ws => us ++ ws.reverse) (fun vs zs => vs ++ zs.reverse)
  g : mg nm = some (.ref C)
  pc : PCls K C nm CP fEq
/-- a paper is made of data -/
def tMk (K : PySem.W.Frag) (C : Addr) (word : Str) (as : List Str) (ta : TA) : TE := fun σ H Q => ta σ H fun vs H1 => ∃ ds, DpAll K H1 vs ds ∧ vs.length = as.length ∧ (∀ d ∈ ds, Fits 2 d) ∧ ∀ x H2, Ext H1 H2 → PAt K H2 x C word (ds.map told) as → Q (.ref x) H2
/-- the same by keywords, written from the last to the first -/
def tMkK (K : PySem.W.Frag) (C : Addr) (word : Str) (as : List Str) (ta : TA) : TE := fun σ H Q => ta σ H fun vs H1 => ∃ ds, DpAll K H1 vs.reverse ds ∧ vs.length = as.length ∧ (∀ d ∈ ds, Fits 2 d) ∧ ∀ x H2, Ext H1 H2 → PAt K H2 x C word (ds.map told) as → Q (.ref x) H2
theorem ini_way {K : PySem.W.Frag} {C x dx : Addr} {word : Str} {as : List Str} {vs : List V} {ds : List PyData} {H : Hp} {Q : VK} {E : XK} (hx : H x = none) (hd : H dx = none) (ne : dx ≠ x) (h1 : DpAll K H vs ds) (h2 : vs.length = as.length) (h3 : ∀ d ∈ ds, Fits 2 d)
    (k : ∀ x H2, Ext H H2 → PAt K H2 x C word (ds.map told) as → Q (.ref x) H2) :
    spIni K 2 C as.length word as (.ref x :: vs) (upd (upd H dx (.own x)) x (.ins C dx [])) (fun v H2 => v = .non ∧ Q (.ref x) H2) E := by
  have e1 : Ext H (upd (upd H dx (.own x)) x (.ins C dx [])) := (Ext.upd hd).upd' (by rw [upd_ne (Ne.symm ne)]; exact hx)
  refine ⟨x, dx, vs, ds, rfl, h2, upd_same, Dp.extAll e1 _ _ h1, h3, fun H' b p => ⟨rfl, k x H' (fun a o ha => ?_) p⟩⟩
  exact b a o (ne_of_none ha hx) (e1 a o ha)
section
variable {X : Cx} {CP fEq C : Addr} {nm word : Str} {as : List Str} {e : Expr} {es : List Expr} {kws : List Keyword} {t : TA} {p pos : Pos}
theorem pe_mk (c : PaperC X.prog X.w X.K X.mg X.base CP fEq C nm word as) (hr : Room 7 X.A) (hg : Gl X nm) (ha : PA X (e :: es) t) (hdb : (nm == ("__debug__" : Str)) = false := by decide)
    (he : starEach (e :: es) X.env = (false, eval e X.env) :: starEach es X.env := by rfl) (hpl : (backTo pos (starEach es X.env)).any (·.1) = false := by rfl) :
    PE X (.Call (.Name nm p) (e :: es) [] pos) (tMk X.K C word as t) := by
  obtain ⟨f, fd, M, F, hb, _⟩ := c.made
  refine ⟨fun pins s σ H Q I h => ?_⟩
  refine wpAny_Call_Name_kw (ld_glob I hg c.g ?_ hdb)
  refine PySem.W.callWith_K (h₀ := X.base) I.ok.mod.kin M.kp (thn (ha.run pos pins s σ H _ I h) fun us s1 ⟨vs, H1, I1, r, ds, h1, h2, h3, k⟩ => ⟨I1.kIn, ?_⟩) he hpl
  refine run_make (dvs := []) M F hr hb .nil pass0 I1 r fun x dx hx hd ne => ?_
  rw [List.append_nil]
  exact ini_way hx hd ne h1 h2 h3 k
theorem pe_mkK (c : PaperC X.prog X.w X.K X.mg X.base CP fEq C nm word as) (hr : Room 7 X.A) (hg : Gl X nm) (hkw : PK X kws t) (hl : kws.length = as.length)
    (hall : (backToKw pos (keywordEach kws X.env)).all (·.1.isSome) = true := by rfl) (hks : (backToKw pos (keywordEach kws X.env)).filterMap (·.1) = as.reverse := by rfl) (hdb : (nm == ("__debug__" : Str)) = false := by decide)
    (hpl : ((backTo pos (starEach [] X.env)).any (·.1) || (backToKw pos (keywordEach kws X.env)).any (·.1.isNone)) = false := by rfl) :
    PE X (.Call (.Name nm p) [] kws pos) (tMkK X.K C word as t) := by
  obtain ⟨f, fd, M, F, _, hb⟩ := c.made
  refine ⟨fun pins s σ H Q I h => ?_⟩
  refine wpAny_Call_Name_kw (ld_glob I hg c.g ?_ hdb)
  refine PySem.W.callWith_KW0 (h₀ := X.base) I.ok.mod.kin M.kp hall ?_ hpl
  refine thn (hkw.run pos pins s σ H _ I h) fun ws s2 ⟨zs, H2, I2, rz, ds, h1, h2, h3, k⟩ => ⟨I2.kIn, ?_⟩
  rw [hks]
  refine run_makeK (us := []) (vs := []) M F hr hb pass0 I2 .nil rz rfl (by rw [List.length_reverse]; exact h2) fun x dx hx hd ne => ?_
  show spIni X.K 2 C as.length word as (.ref x :: zs.reverse) _ _ _
  exact ini_way hx hd ne h1 (by rw [List.length_reverse]; exact h2) h3 k
end
/-- Needed.counted: the rows' heads -/
def spCount (K : PySem.W.Frag) : Sp := fun vs H Q _ => ∃ (x C dx t : Addr) (fs : List (Str × V)) (xs hs : List V), vs = [.ref x] ∧ H x = some (.ins C dx fs) ∧ Cls K C ∧ NoAttr K C "torn" ∧ fs.lookup ("torn" : Str) = some (.ref t) ∧ SqT K H t xs ∧ hs.length = xs.length ∧ xs.length ≤ 1000 ∧
  (∀ (i : Nat) (y : V), xs[i]? = some y → ∃ (p : Addr) (ys : List V) (v : V), y = .ref p ∧ SqT K H p ys ∧ atI ys 0 = some v ∧ hs[i]? = some v) ∧ ∀ l H', Ext H H' → SqT K H' l hs → Q (.ref l) H'
section
variable {P : Program} {w : World} {K : PySem.W.Frag} {mg : Str → Option Value} {base : Heap}
theorem scCt : FnScope ["self", "row"] ["self"] (defScope sCount) := ⟨rfl, rfl, rfl, by decide +kernel, rfl, by decide +kernel, by decide +kernel⟩
theorem ok_count {f : Addr} {fd : FuncData} (F : Fun K "counted" "Needed.counted" sCount f fd) (B : Bl mg) : FnOk P w K mg base CX0 1 f fd ["self"] (spCount K) := by
  refine F.ok scCt (fun vs H Q E h => ?_) (fun cdv A outer s H vs Q E hr h => ?_)
  · obtain ⟨x, C, dx, t, fs, xs, hs, rfl, _⟩ := h
    rfl
  · obtain ⟨x, C, dx, t, fs, xs, hs, rfl, hx, c, n, hf, ht, hl, hl2, hrow, k⟩ := h
    refine ⟨_, pss_one (ps_ret (pe_callTy call_tuple_of (by rfl) B.tup (by decide +kernel) (pa_cons (pe_lc (own := [("row", 1)]) (g := gName 1) (tt := tYes) (te := tOp (rIxT K) (tVar 1) (tC (.int 0))) rfl scCt.nd (pi_tup (pe_fld (pv 0) rfl))
      (blkOk_by (N := ["self", "row"]) (sc := defScope sCount) (by decide +kernel)) (fun _ _ _ _ _ => pg_name (i := 1) scCt.nd rfl (Or.inl rfl)) (fun _ _ _ _ _ => pts_nil)
      (fun _ _ _ _ _ => pe_ix ix_tup (pv 1) pe_int fun _ _ => rfl)) pa_nil))), ?_⟩
    refine ⟨_, rfl, x, C, dx, fs, _, rfl, hx, c, n, hf, t, rfl, ⟨_, ht⟩, fun D hD => lc_tup (K := K) (a := t) (xs := xs) (fun i H2 => H2 D = some (.lst (hs.take i)) ∧ Ext H H2) ⟨upd_same, Ext.upd hD⟩ (fun i H2 _ q => ht.ext q.2) ?_ ?_⟩
    · intro i y H2 hi q
      obtain ⟨p, ys, v, rfl, hp, hv, hh⟩ := hrow i y hi
      have hlt : i < xs.length := (List.getElem?_eq_some_iff.mp hi).1
      refine ⟨rfl, _, rfl, p, ys, 0, v, rfl, rfl, hp.ext q.2, hv, hs.take i, q.1, ?_, ?_, ext_mut q.2 hD⟩
      · rw [List.length_take]
        exact small (by omega)
      · rw [upd_same, List.take_add_one, hh]
        rfl
    · intro H2 q
      have e : hs.take xs.length = hs := List.take_of_length_le (by omega)
      rw [e] at q
      exact ⟨D, hs, rfl, .inl ⟨SqL.of q.1, fun l hl => k l _ (q.2.upd' hl) (SqT.of upd_same)⟩⟩
end
end P45

/-! k45: what the law's body stands on; the state of a turn. -/
namespace P45
open PySem L2 M45
abbrev sLaw : Stmt := top 22
def lawN : List Str := ["script", "pen", "turn", "lap", "one", "two", "three", "value", "told", "papers", "named", "paper", "sizes", "size", "attributes", "at", "other", "bent", "needed"]
theorem scLw : FnScope lawN ["script"] (defScope sLaw) := ⟨rfl, rfl, rfl, by decide +kernel, rfl, by decide +kernel, by decide +kernel⟩
/-- the statements of the law's loop -/
def lp (i : Nat) : Stmt := match (defBody sLaw).getD 1 (.Pass ⟨0, 0, 0, 0⟩) with
  | .For _ _ b _ _ => b.getD i (.Pass ⟨0, 0, 0, 0⟩)
  | _ => .Pass ⟨0, 0, 0, 0⟩
/-- the classes' addresses -/
structure CS where
  dies : Addr
  lives : Addr
  both : Addr
  unmet : Addr
  deaths : Addr
  freed : Addr
  torn : Addr
  needed : Addr
  P : Addr
  D : Addr
  eq : Addr
  pb : Addr
  db : Addr
/-- a paper, told of -/
structure PR where
  x : Addr
  C : Addr
  n : Str
  word : Str
  as : List Str
  ds : List PyData
  b : Bool
def rsOf (c : CS) (xs : Nat → Addr) (d1 d2 d3 : PyData) : List PR :=
  [⟨xs 0, c.dies, "Dies", "dies", ["run", "rows"], [d1, d2], true⟩, ⟨xs 1, c.lives, "Lives", "lives", ["run", "rows"], [d1, d2], false⟩, ⟨xs 2, c.both, "Both", "both", ["run", "other"], [d1, d2], false⟩,
   ⟨xs 3, c.unmet, "Unmet", "unmet", ["rows"], [d1], false⟩, ⟨xs 4, c.deaths, "Deaths", "deaths", ["spots", "rows"], [d1, d2], true⟩, ⟨xs 5, c.freed, "Freed", "freed", ["frees", "rows"], [d1, d2], true⟩,
   ⟨xs 6, c.torn, "Torn", "torn", ["shape", "run", "others"], [d1, d2, d3], false⟩, ⟨xs 7, c.needed, "Needed", "needed", ["torn", "freed"], [d1, d2], true⟩]
/-- a class among the eight: its own ==, its own bool, not below another of them -/
structure Kin (K : PySem.W.Frag) (c : CS) (C : Addr) (n : Str) (b : Bool) : Prop where
  pc : PCls K C n c.P c.eq
  bo : OwnB K C (if b then c.pb else c.db)
  nf : ∀ C' ∈ [c.dies, c.lives, c.both, c.unmet, c.deaths, c.freed, c.torn, c.needed], PySem.W.notFirst K C (.ref C') = true
/-- what the law's body stands on -/
structure LawF (P : Program) (w : World) (K : PySem.W.Frag) (mg : Str → Option Value) (base : Heap) (c : CS) : Prop where
  bl : Bl mg
  pen : ∃ f fd, FnOk P w K mg base CX0 1 f fd ["script"] (spPen K) ∧ Binds K fd ["script"] [] ∧ mg "_law_pen" = some (.ref f) ∧ PySem.W.keepIn K (.ref f) = true
  any : ∃ f fd, FnOk P w K mg base CX0 5 f fd ["pen", "deep"] (spAny K 2) ∧ Binds K fd ["pen", "deep"] [] ∧ mg "_law_d_any" = some (.ref f) ∧ PySem.W.keepIn K (.ref f) = true
  told : ∃ f fd, FnOk P w K mg base CX0 3 f fd ["value"] (spFixed K 2) ∧ Binds K fd ["value"] [] ∧ mg "_law_d_told" = some (.ref f) ∧ PySem.W.keepIn K (.ref f) = true
  eqs : ∃ fd, FnOk P w K mg base CX0 6 c.eq fd ["self", "other"] (spEqB (DPap K c.P c.eq 4)) ∧ Binds K fd ["self", "other"] []
  pbs : ∃ fd, FnOk P w K mg base CX0 1 c.pb fd ["self"] (spBool true) ∧ Binds K fd ["self"] []
  dbs : ∃ fd, FnOk P w K mg base CX0 1 c.db fd ["self"] (spBool false) ∧ Binds K fd ["self"] []
  dies : PaperC P w K mg base c.P c.eq c.dies "Dies" "dies" ["run", "rows"]
  lives : PaperC P w K mg base c.P c.eq c.lives "Lives" "lives" ["run", "rows"]
  both : PaperC P w K mg base c.P c.eq c.both "Both" "both" ["run", "other"]
  unmet : PaperC P w K mg base c.P c.eq c.unmet "Unmet" "unmet" ["rows"]
  deaths : PaperC P w K mg base c.P c.eq c.deaths "Deaths" "deaths" ["spots", "rows"]
  freed : PaperC P w K mg base c.P c.eq c.freed "Freed" "freed" ["frees", "rows"]
  torn : PaperC P w K mg base c.P c.eq c.torn "Torn" "torn" ["shape", "run", "others"]
  needed : PaperC P w K mg base c.P c.eq c.needed "Needed" "needed" ["torn", "freed"]
  kin : ∀ r ∈ rsOf c (fun _ => 0) .none .none .none, Kin K c r.C r.n r.b ∧ ∀ a ∈ r.as, NoAttr K r.C a
  lst : PySem.W.kitOne K (.type "list") (.ref c.P) = some false
  star : ∃ f, Mk K c.P f ∧ Mk K c.D f ∧ FnR P w K mg base CX0 5 f (spPInit K 2) ∧ mg "Paper" = some (.ref c.P) ∧ mg "Denial" = some (.ref c.D)
  pcP : PCls K c.P "Paper" c.P c.eq
  pcD : PCls K c.D "Denial" c.P c.eq
  subs : PySem.W.subIn K (.ref c.both) (.ref c.D) = some true ∧ c.both ≠ c.D ∧ PySem.W.subIn K (.ref c.deaths) (.ref c.P) = some true ∧ c.deaths ≠ c.P
  kits : PySem.W.kitOne K (.ref c.needed) (.ref c.P) = some true ∧ PySem.W.kitOne K (.ref c.freed) (.ref c.D) = some false ∧ PySem.W.kitOne K (.ref c.torn) (.ref c.D) = some true ∧ PySem.W.kitOne K (.ref c.unmet) (.ref c.D) = some true
  count : ∃ f fd, FnOk P w K mg base CX0 1 f fd ["self"] (spCount K) ∧ Binds K fd ["self"] [] ∧ Meth K c.needed "counted" f
/-- the pen out of sight -/
def Hd (p : Addr) (H : Hp) : Hp := fun a => if a = p then none else H a
theorem hd_some {p a : Addr} {H : Hp} {o : HO} (h : Hd p H a = some o) : a ≠ p ∧ H a = some o := by
  unfold Hd at h
  by_cases q : a = p
  · rw [if_pos q] at h; cases h
  · rw [if_neg q] at h; exact ⟨q, h⟩
theorem hd_of {p a : Addr} {H : Hp} {o : HO} (n : a ≠ p) (h : H a = some o) : Hd p H a = some o := by
  unfold Hd
  rw [if_neg n]
  exact h
theorem hd_ext {p : Addr} {H : Hp} : Ext (Hd p H) H := fun a o h => (hd_some h).2
theorem hd_step {p : Addr} {H H' : Hp} (b : ButX p H H') : Ext (Hd p H) (Hd p H') := fun a o h => hd_of (hd_some h).1 (b a o (hd_some h).1 (hd_some h).2)
theorem nw_hd {p : Addr} {H H' : Hp} (hp : H p ≠ none) : Ext (Nw H H') (Hd p H') := fun a o h => hd_of (fun z => hp (by rw [← z]; exact (nw_some h).1)) (nw_some h).2
/-- a paper stays while the pen moves -/
theorem PAt.but {K : PySem.W.Frag} {p x C : Addr} {H H' : Hp} {word : Str} {ds : List PyData} {as : List Str} (h : PAt K H x C word ds as) (fl : ∀ d ∈ ds, Fl d) (pn : Pen p H) (b : ButX p H H') : PAt K H' x C word ds as := by
  obtain ⟨dx, fs, t, xs, h1, h2, h3, h4, h5, h6, h7⟩ := h.ex
  obtain ⟨n, e, _⟩ := pn
  have ne : x ≠ p := fun z => by
    subst z
    rw [h1] at e
    cases e
  have kt : KeepT H H' := fun a xs r => by
    have na : a ≠ p := fun z => by
      subst z
      rcases r with r | ⟨o, r⟩ <;> (rw [e] at r; cases r)
    rcases r with r | ⟨o, r⟩
    · exact .inl (b a _ na r)
    · exact .inr ⟨o, b a _ na r⟩
  exact ⟨dx, fs, t, xs, b x _ ne h1, h2, h3, SqT.keep kt h4, Dp.keepTAll kt _ _ fl h5, h6, h7⟩
/-- the state behind the papers -/
structure LS (K : PySem.W.Frag) (p : Addr) (v1 v2 v3 : V) (d1 d2 d3 : PyData) (tl : Addr) (t1 t2 t3 : V) (pl : Addr) (rs : List PR) (H : Hp) : Prop where
  pen : Pen p H
  r1 : Dp K (Hd p H) v1 d1
  r2 : Dp K (Hd p H) v2 d2
  r3 : Dp K (Hd p H) v3 d3
  tne : tl ≠ p
  tl : H tl = some (.lst [t1, t2, t3])
  k1 : Dp K (Hd p H) t1 (told d1)
  k2 : Dp K (Hd p H) t2 (told d2)
  k3 : Dp K (Hd p H) t3 (told d3)
  pne : pl ≠ p
  pl : H pl = some (.lst (rs.map fun r => V.ref r.x))
  ps : ∀ r ∈ rs, PAt K H r.x r.C r.word (r.ds.map told) r.as
  fl : ∀ r ∈ rs, ∀ d ∈ r.ds.map told, Fl d
section
variable {K : PySem.W.Frag} {p tl pl : Addr} {v1 v2 v3 t1 t2 t3 : V} {d1 d2 d3 : PyData} {rs : List PR} {H H' : Hp}
theorem LS.but (L : LS K p v1 v2 v3 d1 d2 d3 tl t1 t2 t3 pl rs H) (b : ButX p H H') (pn : Pen p H') : LS K p v1 v2 v3 d1 d2 d3 tl t1 t2 t3 pl rs H' :=
  ⟨pn, Dp.ext (hd_step b) _ _ L.r1, Dp.ext (hd_step b) _ _ L.r2, Dp.ext (hd_step b) _ _ L.r3, L.tne, b _ _ L.tne L.tl, Dp.ext (hd_step b) _ _ L.k1, Dp.ext (hd_step b) _ _ L.k2, Dp.ext (hd_step b) _ _ L.k3,
    L.pne, b _ _ L.pne L.pl, fun r hr => (L.ps r hr).but (L.fl r hr) L.pen b, L.fl⟩
theorem Pen.ext (h : Pen p H) (e : Ext H H') : Pen p H' := by
  obtain ⟨n, q, h0, h1⟩ := h
  exact ⟨n, e _ _ q, h0, h1⟩
theorem LS.ext (L : LS K p v1 v2 v3 d1 d2 d3 tl t1 t2 t3 pl rs H) (e : Ext H H') : LS K p v1 v2 v3 d1 d2 d3 tl t1 t2 t3 pl rs H' := L.but (ButX.of e) (L.pen.ext e)
end
end P45

/-! k45: the law's loop, up to the papers. -/
namespace P45
open PySem L2 M45
abbrev LX (P : Program) (w : World) (K : PySem.W.Frag) (mg : Str → Option Value) (base : Heap) (f : Addr) (cdv : Value) (A : Around) (outer : List Env) (s : Shared) (H : Hp) (E : XK) : Cx := (cxOf CX0 P w K mg base lawN "law" (defScope sLaw) f cdv A outer s H E).nox
/-- the names' values -/
abbrev sgm (a0 : Option V) (p : Addr) (a2 a3 a4 a5 a6 a7 a8 a9 a10 a11 a12 a13 a14 a15 a16 a17 a18 : Option V) : L2.St := [a0, some (.ref p), a2, a3, a4, a5, a6, a7, a8, a9, a10, a11, a12, a13, a14, a15, a16, a17, a18]
theorem hd_flat {K : PySem.W.Frag} {p : Addr} {H : Hp} {v : V} {d : PyData} (pn : Pen p H) (fl : Fl d) (h : Dp K H v d) : Dp K (Hd p H) v d := by
  obtain ⟨n, e, _⟩ := pn
  refine Dp.keepT (fun a xs r => ?_) d v fl h
  have na : a ≠ p := fun z => by
    subst z
    rcases r with r | ⟨o, r⟩ <;> (rw [e] at r; cases r)
  rcases r with r | ⟨o, r⟩
  · exact .inl (hd_of na r)
  · exact .inr ⟨o, hd_of na r⟩
theorem Dr.fits {n : Nat} {d : PyData} (h : Dr n d) : Fits n d := by
  induction h with
  | leaf h => rcases leaf_cases h with rfl | rfl | rfl | rfl | rfl | rfl | rfl | rfl | rfl | rfl <;> first | exact .non | exact .bl _ | exact .int _ | exact .str _
  | list hl _ ih => exact .list (by omega) ih
  | tuple hl _ ih => exact .tuple (by omega) ih
section
variable {P : Program} {w : World} {K : PySem.W.Frag} {mg : Str → Option Value} {base : Heap} {c : CS} {f : Addr} {cdv : Value} {A : Around} {outer : List Env} {s : Shared} {H0 : Hp} {E : XK}
theorem law1 (F : LawF P w K mg base c) (hr : Room 10 (LX P w K mg base f cdv A outer s H0 E).A) : ∃ t, PS (LX P w K mg base f cdv A outer s H0 E) (lp 0) t ∧ ∀ (D : Ends) (H : Hp) (p : Addr) (a0 a2 a3 a4 a5 a6 a7 a8 a9 a10 a11 a12 a13 a14 a15 a16 a17 a18 : Option V), Pen p H →
    (∀ v1 v2 v3 d1 d2 d3 H', Dr 2 d1 → Dr 2 d2 → Dr 2 d3 → Pen p H' → Dp K (Hd p H') v1 d1 → Dp K (Hd p H') v2 d2 → Dp K (Hd p H') v3 d3 → D.nx (sgm a0 p a2 a3 (some v1) (some v2) (some v3) a7 a8 a9 a10 a11 a12 a13 a14 a15 a16 a17 a18) H') →
    t D (sgm a0 p a2 a3 a4 a5 a6 a7 a8 a9 a10 a11 a12 a13 a14 a15 a16 a17 a18) H := by
  obtain ⟨fa, fda, GA, ba, ga, ka⟩ := F.any
  refine ⟨_, ps_asg (pe_lc (own := [("lap", 3)]) (g := gName 3) (tt := tYes) rfl scLw.nd (pi_range1 rfl F.bl.rng (pa_cons pe_int pa_nil)) (blkOk_by (N := lawN) (sc := defScope sLaw) (by decide +kernel))
    (fun _ _ _ _ _ => pg_name (i := 3) scLw.nd rfl (Or.inl rfl)) (fun _ _ _ _ _ => pts_nil) (fun _ _ _ _ _ => pe_call GA (hr.mono (by omega)) rfl ga ka ba .nil pass0 (pa_cons (pv 1) (pa_cons pe_int pa_nil))))
    (pg_unl rfl (pgs_cons (pg_name (i := 4) scLw.nd rfl (Or.inl rfl)) (pgs_cons (pg_name (i := 5) scLw.nd rfl (Or.inl rfl)) (pgs_cons (pg_name (i := 6) scLw.nd rfl (Or.inl rfl)) pgs_nil)))), ?_⟩
  intro D H p a0 a2 a3 a4 a5 a6 a7 a8 a9 a10 a11 a12 a13 a14 a15 a16 a17 a18 pn k
  refine ⟨3, rfl, by decide, by decide, fun L hL => lc_range (Drawing K 2 p H L) (Drawing.start pn hL) ?_ ?_⟩
  · intro i H3 hi q
    have p3 : Pen p H3 := by
      obtain ⟨ys, ds, _, _, _, _, _, z, _⟩ := id q
      exact z
    refine ⟨rfl, _, rfl, p, rfl, p3, fun v d H4 hd hv b4 p4 => ?_⟩
    exact q.turn pn hL (by omega) hd hv b4 p4
  · intro H3 q
    obtain ⟨ys, ds, e1, e2, e3, e4, e5, e6, e7⟩ := q.list pn hL
    have hl := dpLen e6
    match ds, ys, e2, hl, e1, e3, e6 with
    | [d1, d2, d3], [v1, v2, v3], _, _, e1, e3, e6 =>
    cases e6 with
    | cons h1 e6 =>
      cases e6 with
      | cons h2 e6 =>
        cases e6 with
        | cons h3 _ =>
          have x := nw_hd (H' := H3) pn.ne
          exact ⟨L, [v1, v2, v3], rfl, SqL.of e1, rfl, v1, _, rfl, v2, _, rfl, v3, _, rfl, rfl, k v1 v2 v3 d1 d2 d3 H3 (e3 _ (by simp)) (e3 _ (by simp)) (e3 _ (by simp)) e5 (Dp.ext x _ _ h1) (Dp.ext x _ _ h2) (Dp.ext x _ _ h3)⟩
theorem law2 (F : LawF P w K mg base c) (hr : Room 10 (LX P w K mg base f cdv A outer s H0 E).A) : ∃ t, PS (LX P w K mg base f cdv A outer s H0 E) (lp 1) t ∧ ∀ (D : Ends) (H : Hp) (p : Addr) (a0 a2 a3 a7 a8 a9 a10 a11 a12 a13 a14 a15 a16 a17 a18 : Option V) (v1 v2 v3 : V) (d1 d2 d3 : PyData), Dr 2 d1 → Dr 2 d2 → Dr 2 d3 → Pen p H → Dp K (Hd p H) v1 d1 → Dp K (Hd p H) v2 d2 → Dp K (Hd p H) v3 d3 →
    (∀ tl t1 t2 t3 H', Ext H H' → tl ≠ p → H' tl = some (.lst [t1, t2, t3]) → Dp K (Hd p H') t1 (told d1) → Dp K (Hd p H') t2 (told d2) → Dp K (Hd p H') t3 (told d3) → D.nx (sgm a0 p a2 a3 (some v1) (some v2) (some v3) a7 (some (.ref tl)) a9 a10 a11 a12 a13 a14 a15 a16 a17 a18) H') →
    t D (sgm a0 p a2 a3 (some v1) (some v2) (some v3) a7 a8 a9 a10 a11 a12 a13 a14 a15 a16 a17 a18) H := by
  obtain ⟨ft, fdt, GT, bt, gt, kt⟩ := F.told
  refine ⟨_, ps_set (i := 8) scLw.nd rfl (Or.inr rfl) (pe_lc (own := [("value", 7)]) (g := gName 7) (tt := tYes) rfl scLw.nd (pi_tup (pe_tup (pa_cons (pv 4) (pa_cons (pv 5) (pa_cons (pv 6) pa_nil)))))
    (blkOk_by (N := lawN) (sc := defScope sLaw) (by decide +kernel)) (fun _ _ _ _ _ => pg_name (i := 7) scLw.nd rfl (Or.inl rfl)) (fun _ _ _ _ _ => pts_nil)
    (fun _ _ _ _ _ => pe_call GT (hr.mono (by omega)) rfl gt kt bt .nil pass0 (pa_cons (pv 7) pa_nil))), ?_⟩
  intro D H p a0 a2 a3 a7 a8 a9 a10 a11 a12 a13 a14 a15 a16 a17 a18 v1 v2 v3 d1 d2 d3 r1 r2 r3 pn h1 h2 h3 k
  refine ⟨_, rfl, _, rfl, _, rfl, (by show 3 ≤ sizeLine; decide), fun T hT => ⟨T, rfl, ⟨[v1, v2, v3], SqT.of upd_same⟩, fun L hL => ?_⟩⟩
  have e1 : Ext H (upd H T (.tup [v1, v2, v3])) := Ext.upd hT
  have hf : ∀ d ∈ [d1, d2, d3], Fits 2 d := by
    intro d hd
    simp only [List.mem_cons, List.not_mem_nil, or_false] at hd
    rcases hd with rfl | rfl | rfl
    · exact Dr.fits r1
    · exact Dr.fits r2
    · exact Dr.fits r3
  have ha : DpAll K (upd H T (.tup [v1, v2, v3])) [v1, v2, v3] [d1, d2, d3] := Dp.extAll (fun a o h => e1 a o (hd_ext a o h)) _ _ (.cons h1 (.cons h2 (.cons h3 .nil)))
  refine lc_tup (K := K) (a := T) (xs := [v1, v2, v3]) (Telling K (upd H T (.tup [v1, v2, v3])) L [d1, d2, d3]) (Telling.start hL) (fun i H2 _ q => (SqT.of upd_same).ext q.choose_spec.2.2) ?_ ?_
  · intro i y H2 hi q
    obtain ⟨d, hd1, hd2⟩ := dpGet ha hi
    obtain ⟨_, _, _, q3⟩ := id q
    exact ⟨rfl, _, rfl, y, d, rfl, Dp.ext q3 d y hd2, hf d (List.mem_of_getElem? hd1), fun v' H3 e3 hv => q.turn hL hf hd1 (by show 3 ≤ 1000; decide) e3 hv⟩
  · intro H2 q
    obtain ⟨ys, z1, z2, z3⟩ := id q
    have z2 : DpAll K H2 ys [told d1, told d2, told d3] := z2
    have pn2 : Pen p H2 := (pn.ext e1).ext z3
    have ne : L ≠ p := fun z => (pn.ext e1).ne (by rw [← z]; exact hL)
    match ys, dpLen z2, z1, z2 with
    | [t1, t2, t3], _, z1, z2 =>
    cases z2 with
    | cons y1 z2 =>
      cases z2 with
      | cons y2 z2 =>
        cases z2 with
        | cons y3 _ =>
          exact k L t1 t2 t3 H2 (e1.trans z3) ne z1 (hd_flat pn2 (Dr.fits r1).toldFl y1) (hd_flat pn2 (Dr.fits r2).toldFl y2) (hd_flat pn2 (Dr.fits r3).toldFl y3)
end
end P45

/-! k45: the law's loop: the papers. -/
namespace P45
open PySem L2 M45
section
variable {P : Program} {w : World} {K : PySem.W.Frag} {mg : Str → Option Value} {base : Heap} {c : CS} {f : Addr} {cdv : Value} {A : Around} {outer : List Env} {s : Shared} {H0 : Hp} {E : XK}
theorem fits2 {n : Nat} {a b : PyData} (ha : Fits n a) (hb : Fits n b) : ∀ d ∈ [a, b], Fits n d := by
  intro d hd
  simp only [List.mem_cons, List.not_mem_nil, or_false] at hd
  rcases hd with rfl | rfl
  · exact ha
  · exact hb
theorem fits3 {n : Nat} {a b c : PyData} (ha : Fits n a) (hb : Fits n b) (hc : Fits n c) : ∀ d ∈ [a, b, c], Fits n d := by
  intro d hd
  simp only [List.mem_cons, List.not_mem_nil, or_false] at hd
  rcases hd with rfl | rfl | rfl
  · exact ha
  · exact hb
  · exact hc
theorem fits1 {n : Nat} {a : PyData} (ha : Fits n a) : ∀ d ∈ [a], Fits n d := by
  intro d hd
  simp only [List.mem_cons, List.not_mem_nil, or_false] at hd
  subst hd
  exact ha

theorem hd_trans {p : Addr} {H H' : Hp} (g : Ext H H') : Ext (Hd p H) H' := fun a o h => g a o (hd_ext a o h)
theorem law3 (F : LawF P w K mg base c) (hr : Room 10 (LX P w K mg base f cdv A outer s H0 E).A) : ∃ t, PS (LX P w K mg base f cdv A outer s H0 E) (lp 2) t ∧ ∀ (D : Ends) (H : Hp) (p tl : Addr) (a0 a2 a3 a7 a9 a10 a11 a12 a13 a14 a15 a16 a17 a18 : Option V) (v1 v2 v3 t1 t2 t3 : V) (d1 d2 d3 : PyData), Dr 2 d1 → Dr 2 d2 → Dr 2 d3 → Pen p H → Dp K (Hd p H) v1 d1 → Dp K (Hd p H) v2 d2 → Dp K (Hd p H) v3 d3 →
    tl ≠ p → H tl = some (.lst [t1, t2, t3]) → Dp K (Hd p H) t1 (told d1) → Dp K (Hd p H) t2 (told d2) → Dp K (Hd p H) t3 (told d3) →
    (∀ pl xs H', LS K p v1 v2 v3 d1 d2 d3 tl t1 t2 t3 pl (rsOf c xs d1 d2 d3) H' → D.nx (sgm a0 p a2 a3 (some v1) (some v2) (some v3) a7 (some (.ref tl)) (some (.ref pl)) a10 a11 a12 a13 a14 a15 a16 a17 a18) H') →
    t D (sgm a0 p a2 a3 (some v1) (some v2) (some v3) a7 (some (.ref tl)) a9 a10 a11 a12 a13 a14 a15 a16 a17 a18) H := by
  refine ⟨_, ps_set (i := 9) scLw.nd rfl (Or.inl rfl) (pe_lst (pa_cons (pe_mk F.dies (hr.mono (by omega)) rfl (pa_cons (pv 4) (pa_cons (pv 5) pa_nil))) (pa_cons (pe_mk F.lives (hr.mono (by omega)) rfl (pa_cons (pv 4) (pa_cons (pv 5) pa_nil))) (pa_cons (pe_mk F.both (hr.mono (by omega)) rfl (pa_cons (pv 4) (pa_cons (pv 5) pa_nil))) (pa_cons (pe_mk F.unmet (hr.mono (by omega)) rfl (pa_cons (pv 4) pa_nil)) (pa_cons (pe_mk F.deaths (hr.mono (by omega)) rfl (pa_cons (pv 4) (pa_cons (pv 5) pa_nil))) (pa_cons (pe_mk F.freed (hr.mono (by omega)) rfl (pa_cons (pv 4) (pa_cons (pv 5) pa_nil))) (pa_cons (pe_mk F.torn (hr.mono (by omega)) rfl (pa_cons (pv 4) (pa_cons (pv 5) (pa_cons (pv 6) pa_nil)))) (pa_cons (pe_mk F.needed (hr.mono (by omega)) rfl (pa_cons (pv 4) (pa_cons (pv 5) pa_nil))) pa_nil))))))))), ?_⟩
  intro D H p tl a0 a2 a3 a7 a9 a10 a11 a12 a13 a14 a15 a16 a17 a18 v1 v2 v3 t1 t2 t3 d1 d2 d3 r1 r2 r3 pn h1 h2 h3 tn ht k1 k2 k3 k
  have f1 := Dr.fits r1
  have f2 := Dr.fits r2
  have f3 := Dr.fits r3
  have gs : Ext H H := Ext.rfl'
  refine ⟨_, rfl, _, rfl, [d1, d2], (.cons (Dp.ext (hd_trans gs) _ _ h1) (.cons (Dp.ext (hd_trans gs) _ _ h2) .nil)), rfl, (fits2 f1 f2), fun x0 H1 q0 w0 => ?_⟩
  have g0 : Ext H H1 := Ext.trans gs q0
  refine ⟨_, rfl, _, rfl, [d1, d2], (.cons (Dp.ext (hd_trans g0) _ _ h1) (.cons (Dp.ext (hd_trans g0) _ _ h2) .nil)), rfl, (fits2 f1 f2), fun x1 H2 q1 w1 => ?_⟩
  have g1 : Ext H H2 := Ext.trans g0 q1
  refine ⟨_, rfl, _, rfl, [d1, d2], (.cons (Dp.ext (hd_trans g1) _ _ h1) (.cons (Dp.ext (hd_trans g1) _ _ h2) .nil)), rfl, (fits2 f1 f2), fun x2 H3 q2 w2 => ?_⟩
  have g2 : Ext H H3 := Ext.trans g1 q2
  refine ⟨_, rfl, [d1], (.cons (Dp.ext (hd_trans g2) _ _ h1) .nil), rfl, (fits1 f1), fun x3 H4 q3 w3 => ?_⟩
  have g3 : Ext H H4 := Ext.trans g2 q3
  refine ⟨_, rfl, _, rfl, [d1, d2], (.cons (Dp.ext (hd_trans g3) _ _ h1) (.cons (Dp.ext (hd_trans g3) _ _ h2) .nil)), rfl, (fits2 f1 f2), fun x4 H5 q4 w4 => ?_⟩
  have g4 : Ext H H5 := Ext.trans g3 q4
  refine ⟨_, rfl, _, rfl, [d1, d2], (.cons (Dp.ext (hd_trans g4) _ _ h1) (.cons (Dp.ext (hd_trans g4) _ _ h2) .nil)), rfl, (fits2 f1 f2), fun x5 H6 q5 w5 => ?_⟩
  have g5 : Ext H H6 := Ext.trans g4 q5
  refine ⟨_, rfl, _, rfl, _, rfl, [d1, d2, d3], (.cons (Dp.ext (hd_trans g5) _ _ h1) (.cons (Dp.ext (hd_trans g5) _ _ h2) (.cons (Dp.ext (hd_trans g5) _ _ h3) .nil))), rfl, (fits3 f1 f2 f3), fun x6 H7 q6 w6 => ?_⟩
  have g6 : Ext H H7 := Ext.trans g5 q6
  refine ⟨_, rfl, _, rfl, [d1, d2], (.cons (Dp.ext (hd_trans g6) _ _ h1) (.cons (Dp.ext (hd_trans g6) _ _ h2) .nil)), rfl, (fits2 f1 f2), fun x7 H8 q7 w7 => ?_⟩
  have g7 : Ext H H8 := Ext.trans g6 q7
  refine ⟨(by show 8 ≤ sizeLine; decide), fun pl hp => ?_⟩
  have gl : Ext H8 (upd H8 pl (.lst [.ref x0, .ref x1, .ref x2, .ref x3, .ref x4, .ref x5, .ref x6, .ref x7])) := Ext.upd hp
  have G := g7.trans gl
  have b := ButX.of (x := p) G
  have np : pl ≠ p := fun z => (pn.ext g7).ne (by rw [← z]; exact hp)
  refine k pl (fun i => [x0, x1, x2, x3, x4, x5, x6, x7].getD i 0) _ ⟨pn.ext G, Dp.ext (hd_step b) _ _ h1, Dp.ext (hd_step b) _ _ h2, Dp.ext (hd_step b) _ _ h3, tn, G _ _ ht, Dp.ext (hd_step b) _ _ k1, Dp.ext (hd_step b) _ _ k2, Dp.ext (hd_step b) _ _ k3, np, upd_same, ?_, ?_⟩
  · intro r hr'
    unfold rsOf at hr'
    simp only [List.mem_cons, List.not_mem_nil, or_false] at hr'
    rcases hr' with rfl | rfl | rfl | rfl | rfl | rfl | rfl | rfl
    · exact w0.ext (q1.trans (q2.trans (q3.trans (q4.trans (q5.trans (q6.trans (q7.trans gl)))))))
    · exact w1.ext (q2.trans (q3.trans (q4.trans (q5.trans (q6.trans (q7.trans gl))))))
    · exact w2.ext (q3.trans (q4.trans (q5.trans (q6.trans (q7.trans gl)))))
    · exact w3.ext (q4.trans (q5.trans (q6.trans (q7.trans gl))))
    · exact w4.ext (q5.trans (q6.trans (q7.trans gl)))
    · exact w5.ext (q6.trans (q7.trans gl))
    · exact w6.ext (q7.trans gl)
    · exact w7.ext gl
  · intro r hr' d hd
    refine tolds (n := 2) (ds := r.ds) ?_ d hd
    unfold rsOf at hr'
    simp only [List.mem_cons, List.not_mem_nil, or_false] at hr'
    rcases hr' with rfl | rfl | rfl | rfl | rfl | rfl | rfl | rfl
    · exact (fits2 f1 f2)
    · exact (fits2 f1 f2)
    · exact (fits2 f1 f2)
    · exact (fits1 f1)
    · exact (fits2 f1 f2)
    · exact (fits2 f1 f2)
    · exact (fits3 f1 f2 f3)
    · exact (fits2 f1 f2)

theorem law4 (F : LawF P w K mg base c) (hr : Room 10 (LX P w K mg base f cdv A outer s H0 E).A) : ∃ t, PS (LX P w K mg base f cdv A outer s H0 E) (lp 3) t ∧ ∀ (D : Ends) (H : Hp) (p tl pl : Addr) (rs : List PR) (a0 a2 a3 a7 a10 a11 a12 a13 a14 a15 a16 a17 a18 : Option V) (v1 v2 v3 t1 t2 t3 : V) (d1 d2 d3 : PyData), Dr 2 d1 → Dr 2 d2 → Dr 2 d3 → LS K p v1 v2 v3 d1 d2 d3 tl t1 t2 t3 pl rs H →
    (∀ nl xs H', Ext H H' → LS K p v1 v2 v3 d1 d2 d3 tl t1 t2 t3 pl rs H' → H' nl = some (.lst (((rsOf c xs d1 d2 d3).take 6).map fun r => V.ref r.x)) → (∀ r ∈ (rsOf c xs d1 d2 d3).take 6, PAt K H' r.x r.C r.word (r.ds.map told) r.as) → D.nx (sgm a0 p a2 a3 (some v1) (some v2) (some v3) a7 (some (.ref tl)) (some (.ref pl)) (some (.ref nl)) a11 a12 a13 a14 a15 a16 a17 a18) H') →
    t D (sgm a0 p a2 a3 (some v1) (some v2) (some v3) a7 (some (.ref tl)) (some (.ref pl)) a10 a11 a12 a13 a14 a15 a16 a17 a18) H := by
  refine ⟨_, ps_set (i := 10) scLw.nd rfl (Or.inl rfl) (pe_lst (pa_cons (pe_mkK F.dies (hr.mono (by omega)) rfl (pk_cons (pv 5) (pk_cons (pv 4) pk_nil)) rfl) (pa_cons (pe_mkK F.lives (hr.mono (by omega)) rfl (pk_cons (pv 5) (pk_cons (pv 4) pk_nil)) rfl) (pa_cons (pe_mkK F.both (hr.mono (by omega)) rfl (pk_cons (pv 5) (pk_cons (pv 4) pk_nil)) rfl) (pa_cons (pe_mkK F.unmet (hr.mono (by omega)) rfl (pk_cons (pv 4) pk_nil) rfl) (pa_cons (pe_mkK F.deaths (hr.mono (by omega)) rfl (pk_cons (pv 5) (pk_cons (pv 4) pk_nil)) rfl) (pa_cons (pe_mkK F.freed (hr.mono (by omega)) rfl (pk_cons (pv 5) (pk_cons (pv 4) pk_nil)) rfl) pa_nil))))))), ?_⟩
  intro D H p tl pl rs a0 a2 a3 a7 a10 a11 a12 a13 a14 a15 a16 a17 a18 v1 v2 v3 t1 t2 t3 d1 d2 d3 r1 r2 r3 S k
  have f1 := Dr.fits r1
  have f2 := Dr.fits r2
  have f3 := Dr.fits r3
  have h1 := S.r1
  have h2 := S.r2
  have h3 := S.r3
  have gs : Ext H H := Ext.rfl'
  refine ⟨_, rfl, _, rfl, [d1, d2], (.cons (Dp.ext (hd_trans gs) _ _ h1) (.cons (Dp.ext (hd_trans gs) _ _ h2) .nil)), rfl, (fits2 f1 f2), fun x0 H1 q0 w0 => ?_⟩
  have g0 : Ext H H1 := Ext.trans gs q0
  refine ⟨_, rfl, _, rfl, [d1, d2], (.cons (Dp.ext (hd_trans g0) _ _ h1) (.cons (Dp.ext (hd_trans g0) _ _ h2) .nil)), rfl, (fits2 f1 f2), fun x1 H2 q1 w1 => ?_⟩
  have g1 : Ext H H2 := Ext.trans g0 q1
  refine ⟨_, rfl, _, rfl, [d1, d2], (.cons (Dp.ext (hd_trans g1) _ _ h1) (.cons (Dp.ext (hd_trans g1) _ _ h2) .nil)), rfl, (fits2 f1 f2), fun x2 H3 q2 w2 => ?_⟩
  have g2 : Ext H H3 := Ext.trans g1 q2
  refine ⟨_, rfl, [d1], (.cons (Dp.ext (hd_trans g2) _ _ h1) .nil), rfl, (fits1 f1), fun x3 H4 q3 w3 => ?_⟩
  have g3 : Ext H H4 := Ext.trans g2 q3
  refine ⟨_, rfl, _, rfl, [d1, d2], (.cons (Dp.ext (hd_trans g3) _ _ h1) (.cons (Dp.ext (hd_trans g3) _ _ h2) .nil)), rfl, (fits2 f1 f2), fun x4 H5 q4 w4 => ?_⟩
  have g4 : Ext H H5 := Ext.trans g3 q4
  refine ⟨_, rfl, _, rfl, [d1, d2], (.cons (Dp.ext (hd_trans g4) _ _ h1) (.cons (Dp.ext (hd_trans g4) _ _ h2) .nil)), rfl, (fits2 f1 f2), fun x5 H6 q5 w5 => ?_⟩
  have g5 : Ext H H6 := Ext.trans g4 q5
  refine ⟨(by show 6 ≤ sizeLine; decide), fun nl hp => ?_⟩
  have gl : Ext H6 (upd H6 nl (.lst [.ref x0, .ref x1, .ref x2, .ref x3, .ref x4, .ref x5])) := Ext.upd hp
  have G := g5.trans gl
  refine k nl (fun i => [x0, x1, x2, x3, x4, x5].getD i 0) _ G (S.ext G) upd_same ?_
  intro r hr'
  unfold rsOf at hr'
  simp only [List.take_succ_cons, List.take_zero, List.mem_cons, List.not_mem_nil, or_false] at hr'
  rcases hr' with rfl | rfl | rfl | rfl | rfl | rfl
  · exact w0.ext (q1.trans (q2.trans (q3.trans (q4.trans (q5.trans gl)))))
  · exact w1.ext (q2.trans (q3.trans (q4.trans (q5.trans gl))))
  · exact w2.ext (q3.trans (q4.trans (q5.trans gl)))
  · exact w3.ext (q4.trans (q5.trans gl))
  · exact w4.ext (q5.trans gl)
  · exact w5.ext gl

theorem law5 (F : LawF P w K mg base c) (hr : Room 10 (LX P w K mg base f cdv A outer s H0 E).A) : ∃ t, PS (LX P w K mg base f cdv A outer s H0 E) (lp 4) t ∧ ∀ (D : Ends) (H : Hp) (p tl pl nl : Addr) (rs : List PR) (xs : Nat → Addr) (a0 a2 a3 a7 a11 a12 a13 a14 a15 a16 a17 a18 : Option V) (v1 v2 v3 t1 t2 t3 : V) (d1 d2 d3 : PyData), Dr 2 d1 → Dr 2 d2 → Dr 2 d3 → LS K p v1 v2 v3 d1 d2 d3 tl t1 t2 t3 pl rs H →
    H nl = some (.lst (((rsOf c xs d1 d2 d3).take 6).map fun r => V.ref r.x)) → (∀ r ∈ (rsOf c xs d1 d2 d3).take 6, PAt K H r.x r.C r.word (r.ds.map told) r.as) →
    (∀ nl xs H', Ext H H' → LS K p v1 v2 v3 d1 d2 d3 tl t1 t2 t3 pl rs H' → H' nl = some (.lst ((rsOf c xs d1 d2 d3).map fun r => V.ref r.x)) → (∀ r ∈ rsOf c xs d1 d2 d3, PAt K H' r.x r.C r.word (r.ds.map told) r.as) → D.nx (sgm a0 p a2 a3 (some v1) (some v2) (some v3) a7 (some (.ref tl)) (some (.ref pl)) (some (.ref nl)) a11 a12 a13 a14 a15 a16 a17 a18) H') →
    t D (sgm a0 p a2 a3 (some v1) (some v2) (some v3) a7 (some (.ref tl)) (some (.ref pl)) (some (.ref nl)) a11 a12 a13 a14 a15 a16 a17 a18) H := by
  refine ⟨_, ps_set (i := 10) scLw.nd rfl (Or.inl rfl) (pe_op op_cat (pv 10) (pe_lst (pa_cons (pe_mkK F.torn (hr.mono (by omega)) rfl (pk_cons (pv 6) (pk_cons (pv 5) (pk_cons (pv 4) pk_nil))) rfl) (pa_cons (pe_mkK F.needed (hr.mono (by omega)) rfl (pk_cons (pv 5) (pk_cons (pv 4) pk_nil)) rfl) pa_nil)))), ?_⟩
  intro D H p tl pl nl rs xs a0 a2 a3 a7 a11 a12 a13 a14 a15 a16 a17 a18 v1 v2 v3 t1 t2 t3 d1 d2 d3 r1 r2 r3 S hn hw k
  have f1 := Dr.fits r1
  have f2 := Dr.fits r2
  have f3 := Dr.fits r3
  have h1 := S.r1
  have h2 := S.r2
  have h3 := S.r3
  have gs : Ext H H := Ext.rfl'
  refine ⟨_, rfl, _, rfl, _, rfl, _, rfl, [d1, d2, d3], (.cons (Dp.ext (hd_trans gs) _ _ h1) (.cons (Dp.ext (hd_trans gs) _ _ h2) (.cons (Dp.ext (hd_trans gs) _ _ h3) .nil))), rfl, (fits3 f1 f2 f3), fun x6 H7 q6 w6 => ?_⟩
  have g6 : Ext H H7 := Ext.trans gs q6
  refine ⟨_, rfl, _, rfl, [d1, d2], (.cons (Dp.ext (hd_trans g6) _ _ h1) (.cons (Dp.ext (hd_trans g6) _ _ h2) .nil)), rfl, (fits2 f1 f2), fun x7 H8 q7 w7 => ?_⟩
  have g7 : Ext H H8 := Ext.trans g6 q7
  refine ⟨(by show 2 ≤ sizeLine; decide), fun ml hp => ?_⟩
  have gl : Ext H8 (upd H8 ml (.lst [.ref x6, .ref x7])) := Ext.upd hp
  refine ⟨nl, ml, _, _, rfl, rfl, gl _ _ (g7 _ _ hn), upd_same, (by show 8 ≤ sizeLine; decide), fun nl2 hp2 => ?_⟩
  have gl2 := Ext.upd (o := .lst (((rsOf c xs d1 d2 d3).take 6).map (fun r => V.ref r.x) ++ [.ref x6, .ref x7])) hp2
  have G := (g7.trans gl).trans gl2
  refine k nl2 (fun i => if i < 6 then xs i else if i = 6 then x6 else x7) _ G (S.ext G) upd_same ?_
  intro r hr'
  unfold rsOf at hr'
  simp only [List.mem_cons, List.not_mem_nil, or_false] at hr'
  rcases hr' with rfl | rfl | rfl | rfl | rfl | rfl | rfl | rfl
  · exact (hw ⟨xs 0, c.dies, "Dies", "dies", ["run", "rows"], [d1, d2], true⟩ (by simp [rsOf])).ext G
  · exact (hw ⟨xs 1, c.lives, "Lives", "lives", ["run", "rows"], [d1, d2], false⟩ (by simp [rsOf])).ext G
  · exact (hw ⟨xs 2, c.both, "Both", "both", ["run", "other"], [d1, d2], false⟩ (by simp [rsOf])).ext G
  · exact (hw ⟨xs 3, c.unmet, "Unmet", "unmet", ["rows"], [d1], false⟩ (by simp [rsOf])).ext G
  · exact (hw ⟨xs 4, c.deaths, "Deaths", "deaths", ["spots", "rows"], [d1, d2], true⟩ (by simp [rsOf])).ext G
  · exact (hw ⟨xs 5, c.freed, "Freed", "freed", ["frees", "rows"], [d1, d2], true⟩ (by simp [rsOf])).ext G
  · exact w6.ext (q7.trans (gl.trans gl2))
  · exact w7.ext (gl.trans gl2)

end
end P45

/-! k45: helpers for the law's tests. -/
namespace P45
open PySem L2 M45
/-! ### how long a shown value is -/
theorem slen (x y : Str) : (x ++ y).length = x.length + y.length := by
  show (x.cps ++ y.cps).size = _
  exact Array.size_append
theorem piled_le {B : Nat} : ∀ {xs : List PyData}, (∀ x ∈ xs, x.shown.length ≤ B) → piled (PyData.shownAll xs) ≤ xs.length * (B + 2)
  | [], _ => by simp [PyData.shownAll_nil, piled]
  | x :: xs, h => by
    have h1 := h x List.mem_cons_self
    have h2 := piled_le fun y hy => h y (List.mem_cons_of_mem x hy)
    rw [PyData.shownAll_cons]
    simp only [piled, List.map_cons, List.sum_cons, List.length_cons, Nat.succ_mul] at h2 ⊢
    omega
theorem join_le {B : Nat} {xs : List PyData} (h : ∀ x ∈ xs, x.shown.length ≤ B) : (Str.join ", " (PyData.shownAll xs)).length ≤ xs.length * (B + 2) := by
  by_cases e : PyData.shownAll xs = []
  · rw [e]
    exact Nat.zero_le _
  · have := join_length_add _ e
    have := piled_le h
    omega
theorem tup_le {B : Nat} {xs : List PyData} (h : ∀ x ∈ xs, x.shown.length ≤ B) : (PyData.tuple xs).shown.length ≤ xs.length * (B + 2) + 3 := by
  have := join_le h
  rw [PyData.shown_tuple, slen, slen]
  have a : (("(" : Str)).length = 1 := by decide +kernel
  have b : ∀ c : Bool, ((if c = true then ",)" else ")" : String) : Str).length ≤ 2 := by decide +kernel
  have := b (xs.length == 1)
  omega
theorem list_le {B : Nat} {xs : List PyData} (h : ∀ x ∈ xs, x.shown.length ≤ B) : (PyData.list xs).shown.length ≤ xs.length * (B + 2) + 3 := by
  have := join_le h
  rw [PyData.shown_list, slen, slen]
  have a : (("[" : Str)).length = 1 := by decide +kernel
  have b : (("]" : Str)).length = 1 := by decide +kernel
  omega
/-- data that repr shows, within bounds -/
structure Nice (n B : Nat) (d : PyData) : Prop where
  fits : Fits n d
  sh : d.showable = true
  len : d.shown.length ≤ B
  lay : d.canLay0 = true
theorem nice_all {n B : Nat} : ∀ {xs : List PyData}, (∀ x ∈ xs, Nice n B x) → PyData.showableAll xs = true ∧ PyData.canLayAll0 xs = true
  | [], _ => ⟨by simp only [PyData.showableAll], by simp only [PyData.canLayAll0]⟩
  | x :: xs, h => by
    obtain ⟨h1, h2⟩ := nice_all fun y hy => h y (List.mem_cons_of_mem x hy)
    have hx := h x List.mem_cons_self
    exact ⟨by simp only [PyData.showableAll, hx.sh, h1, Bool.and_self], by simp only [PyData.canLayAll0, hx.lay, h2, Bool.and_self]⟩
theorem Nice.tup {n B k : Nat} {xs : List PyData} (h : ∀ x ∈ xs, Nice n B x) (hk : xs.length ≤ k) (hk2 : k ≤ 1000) : Nice (n + 1) (k * (B + 2) + 3) (.tuple xs) := by
  obtain ⟨h1, h2⟩ := nice_all h
  refine ⟨.tuple (by omega) fun x hx => (h x hx).fits, by simp only [PyData.showable, h1], ?_, by simp only [PyData.canLay0, h2]⟩
  have := tup_le fun x hx => (h x hx).len
  have := Nat.mul_le_mul_right (B + 2) hk
  omega
theorem Nice.list {n B k : Nat} {xs : List PyData} (h : ∀ x ∈ xs, Nice n B x) (hk : xs.length ≤ k) (hk2 : k ≤ 1000) : Nice (n + 1) (k * (B + 2) + 3) (.list xs) := by
  obtain ⟨h1, h2⟩ := nice_all h
  refine ⟨.list (by omega) fun x hx => (h x hx).fits, by simp only [PyData.showable, h1], ?_, by simp only [PyData.canLay0, h2]⟩
  have := list_le fun x hx => (h x hx).len
  have := Nat.mul_le_mul_right (B + 2) hk
  omega
def bnd : Nat → Nat
  | 0 => 41
  | n + 1 => 2 * (bnd n + 2) + 3
theorem bnd_le {n : Nat} : 41 ≤ bnd n := by
  cases n with
  | zero => exact Nat.le_refl _
  | succ n =>
    have := @bnd_le n
    unfold bnd
    omega
theorem leaf_nice {d : PyData} (h : d ∈ leaves) : d.showable = true ∧ d.shown.length ≤ 41 ∧ d.canLay0 = true := by
  rcases leaf_cases h with rfl | rfl | rfl | rfl | rfl | rfl | rfl | rfl | rfl | rfl <;> decide +kernel
theorem Tl.nice {n : Nat} {d : PyData} (h : Tl n d) : Nice n (bnd n) d := by
  induction h with
  | leaf h =>
    obtain ⟨h1, h2, h3⟩ := leaf_nice h
    exact ⟨Dr.fits (.leaf h), h1, Nat.le_trans h2 bnd_le, h3⟩
  | tuple hl _ ih => exact Nice.tup ih hl (by decide)
theorem Nice.repr {n B : Nat} {d : PyData} (h : Nice n B d) (hn : n ≤ 60) (hB : B ≤ sizeLine) : d.showable = true ∧ d.hasDict = false ∧ d.depth ≤ 60 ∧ d.shown.length ≤ sizeLine :=
  ⟨h.sh, h.fits.noDict, Nat.le_trans h.fits.depth hn, Nat.le_trans h.len hB⟩
/-! ### what a word and its parts are like -/
theorem good_of {word : Str} {ds : List PyData} (hw : PyData.strOk word = true) (h : ∀ d ∈ ds, Fits 2 d ∧ Fl d ∧ d.canLay0 = true) (hl : ds.length ≤ 1000) : Good 4 (.tuple [.str word, .tuple ds]) := by
  have lay : ∀ {xs : List PyData}, (∀ d ∈ xs, d.canLay0 = true) → PyData.canLayAll0 xs = true := by
    intro xs
    induction xs with
    | nil => intro _; simp only [PyData.canLayAll0]
    | cons x xs ih => intro h; simp only [PyData.canLayAll0, h x List.mem_cons_self, ih fun y hy => h y (List.mem_cons_of_mem x hy), Bool.and_self]
  refine ⟨.tuple (by show 2 ≤ 1000; decide) fun x hx => ?_, .tuple fun x hx => ?_, ?_⟩
  · simp only [List.mem_cons, List.not_mem_nil, or_false] at hx
    rcases hx with rfl | rfl
    · exact .str _
    · exact Fits.mono (.tuple hl fun x hx => (h x hx).1) (by omega)
  · simp only [List.mem_cons, List.not_mem_nil, or_false] at hx
    rcases hx with rfl | rfl
    · exact .str _
    · exact .tuple fun x hx => (h x hx).2.1
  · simp only [PyData.canLay0, PyData.canLayAll0, hw, lay fun d hd => (h d hd).2.2, Bool.and_self]
theorem told_good {ds : List PyData} (h : ∀ d ∈ ds, Dr 2 d) : ∀ d ∈ ds.map told, Fits 2 d ∧ Fl d ∧ d.canLay0 = true := by
  intro d hd
  obtain ⟨y, hy, rfl⟩ := List.mem_map.mp hd
  have := Tl.nice (h y hy).told
  exact ⟨this.fits, (h y hy).told.fl, this.lay⟩
/-- two papers' answers, from word and parts -/
theorem alike_parts (word word' : Str) (ds es : List PyData) : alike (.tuple [.str word, .tuple ds]) (.tuple [.str word', .tuple es]) = (word == word' && (ds.length == es.length && alikeAll ds es)) := by
  have e1 : alike (.str word) (.str word') = (word == word') := by
    rw [alike_flat (by rintro ⟨xs, h⟩ ⟨ys, h'⟩; cases h)]
    simp [isB, PyData.eqv]
  rw [alike_tuple, alikeAll_cons, alikeAll_cons, alike_tuple, e1]
  simp [alikeAll]
end P45

/-! k45: comprehensions over the papers; how papers are compared. -/
namespace P45
open PySem L2 M45
/-- [e for x in xs], each turn giving a value that is known -/
theorem lc_map {K : PySem.W.Frag} {a : Addr} {xs vals : List V} {g : TG} {tt : TT} {te : TE} {vs : List Nat} {σ : L2.St} {H1 : Hp} {D : Addr} {Qd : Hp → Prop} (hl : vals.length = xs.length) (hz : xs.length ≤ 1000) (hD : H1 D = none) (ha : SqL K H1 a xs)
    (hs : ∀ (i : Nat) (x v : V) (H2 : Hp) (k : VK) (N : Hp → Prop), xs[i]? = some x → vals[i]? = some v → Ext H1 H2 → (∀ H3, Ext H2 H3 → k v H3) → g x (wipe σ vs) H2 fun σ2 H3 => wipe σ2 vs = wipe σ vs ∧ tt σ2 H3 fun b H4 => if b = true then te σ2 H4 k else N H4)
    (hd : ∀ H2, Ext H1 H2 → H2 D = some (.lst vals) → Qd H2) :
    ∃ W : Nat → Nat → Hp → Prop, (∃ m, W 0 m (upd H1 D (.lst []))) ∧ ∀ i m H, W i m H →
      ((Itl K a).stop i H ∧ Qd H) ∨ ((Itl K a).go i H ∧ ∃ Nx : Hp → Prop, (∀ H', Nx H' → ∃ m', m' < m ∧ W (i + 1) m' H') ∧ ∀ x H', (Itl K a).yld i H x H' → g x (wipe σ vs) H' fun σ2 H2 => wipe σ2 vs = wipe σ vs ∧ tt σ2 H2 fun b H3 =>
        if b = true then te σ2 H3 fun y H4 => ∃ acc, H4 D = some (.lst acc) ∧ acc.length < sizeLine ∧ Nx (upd H4 D (.lst (acc ++ [y]))) else Nx H3) := by
  refine lc_list (K := K) (a := a) (xs := xs) (fun i H2 => H2 D = some (.lst (vals.take i)) ∧ Ext H1 H2) ⟨upd_same, Ext.upd hD⟩ (fun i H2 _ q => ha.ext q.2) ?_ ?_
  · intro i x H2 hi q
    have hlt : i < xs.length := (List.getElem?_eq_some_iff.mp hi).1
    have hv : vals[i]? = some (vals[i]'(by omega)) := List.getElem?_eq_getElem (by omega)
    refine hs i x _ H2 _ _ hi hv q.2 fun H3 e => ⟨_, e _ _ q.1, ?_, ?_, ext_mut (q.2.trans e) hD⟩
    · rw [List.length_take]
      exact small (by omega)
    · rw [upd_same, List.take_add_one, hv]
      rfl
  · intro H2 q
    refine hd H2 q.2 ?_
    have e : vals.take xs.length = vals := List.take_of_length_le (by omega)
    rw [← e]
    exact q.1
/-- [e for x in xs if ..], where no turn is taken -/
theorem lc_none {K : PySem.W.Frag} {a : Addr} {xs : List V} {g : TG} {tt : TT} {te : TE} {vs : List Nat} {σ : L2.St} {H1 : Hp} {D : Addr} {Qd : Hp → Prop} (hD : H1 D = none) (ha : SqL K H1 a xs)
    (hs : ∀ (i : Nat) (x : V) (H2 : Hp) (k : VK) (N : Hp → Prop), xs[i]? = some x → Ext H1 H2 → (∀ H3, Ext H2 H3 → N H3) → g x (wipe σ vs) H2 fun σ2 H3 => wipe σ2 vs = wipe σ vs ∧ tt σ2 H3 fun b H4 => if b = true then te σ2 H4 k else N H4)
    (hd : ∀ H2, Ext H1 H2 → H2 D = some (.lst []) → Qd H2) :
    ∃ W : Nat → Nat → Hp → Prop, (∃ m, W 0 m (upd H1 D (.lst []))) ∧ ∀ i m H, W i m H →
      ((Itl K a).stop i H ∧ Qd H) ∨ ((Itl K a).go i H ∧ ∃ Nx : Hp → Prop, (∀ H', Nx H' → ∃ m', m' < m ∧ W (i + 1) m' H') ∧ ∀ x H', (Itl K a).yld i H x H' → g x (wipe σ vs) H' fun σ2 H2 => wipe σ2 vs = wipe σ vs ∧ tt σ2 H2 fun b H3 =>
        if b = true then te σ2 H3 fun y H4 => ∃ acc, H4 D = some (.lst acc) ∧ acc.length < sizeLine ∧ Nx (upd H4 D (.lst (acc ++ [y]))) else Nx H3) := by
  refine lc_list (K := K) (a := a) (xs := xs) (fun i H2 => H2 D = some (.lst []) ∧ Ext H1 H2) ⟨upd_same, Ext.upd hD⟩ (fun i H2 _ q => ha.ext q.2) ?_ ?_
  · intro i x H2 hi q
    exact hs i x H2 _ _ hi q.2 fun H3 e => ⟨e _ _ q.1, q.2.trans e⟩
  · intro H2 q
    exact hd H2 q.2 q.1
/-- one by one, of flat values -/
theorem prs_flat {H : Hp} : ∀ {xs : List V}, (∀ x ∈ xs, flatV x = true ∧ eqV x x = true) → Prs DFlat xs xs H
  | [], _ => Prs.nil
  | x :: xs, h => Prs.cons ⟨(h x List.mem_cons_self).1, (h x List.mem_cons_self).1, (h x List.mem_cons_self).2⟩ (prs_flat fun y hy => h y (List.mem_cons_of_mem x hy))
theorem flat_str (s : Str) : flatV (.str s) = true ∧ eqV (.str s) (.str s) = true := ⟨rfl, by simp [eqV]⟩
theorem flat_bl (b : Bool) : flatV (.bl b) = true ∧ eqV (.bl b) (.bl b) = true := ⟨rfl, by simp [eqV]⟩
/-! ### == of papers -/
def DL (K : PySem.W.Frag) (CP fEq : Addr) : EqB := fun x y H r => ∃ a C dx fs, x = .ref a ∧ H a = some (.ins C dx fs) ∧ OwnE K C fEq ∧ RightOf K C H y ∧ DPap K CP fEq 4 x y H r
theorem dl_of {K : PySem.W.Frag} {CP fEq a b C C' : Addr} {n n' word word' : Str} {ds ds' : List PyData} {as as' : List Str} {H : Hp} (c : PCls K C n CP fEq) (c' : PCls K C' n' CP fEq) (pa : PAt K H a C word ds as) (pb : PAt K H b C' word' ds' as') (nf : PySem.W.notFirst K C (.ref C') = true)
    (g : Good 4 (.tuple [.str word, .tuple ds])) (g' : Good 4 (.tuple [.str word', .tuple ds'])) : DL K CP fEq (.ref a) (.ref b) H (decide (n = n') && alike (.tuple [.str word, .tuple ds]) (.tuple [.str word', .tuple ds'])) := by
  obtain ⟨dx, fs, _, _, h1, _⟩ := pa.ex
  obtain ⟨dy, gs, _, _, i1, _⟩ := pb.ex
  exact ⟨a, C, dx, fs, rfl, h1, c.own, .ins i1 nf, .inl ⟨a, b, C, C', n, n', word, word', ds, ds', as, as', rfl, rfl, c, c', pa, pb, g, g', rfl⟩⟩
theorem RightOf.ext {K : PySem.W.Frag} {C : Addr} {H H' : Hp} {y : V} (h : RightOf K C H y) (e : Ext H H') : RightOf K C H' y := by
  cases h with
  | ins h n => exact .ins (e _ _ h) n
  | lst h n => exact .lst (e _ _ h) n
theorem DPap.ext {K : PySem.W.Frag} {CP fEq : Addr} {m : Nat} {x y : V} {H H' : Hp} {r : Bool} (e : Ext H H') (d : DPap K CP fEq m x y H r) : DPap K CP fEq m x y H' r := by
  rcases d with ⟨a, b, C, C', n, n', word, word', ds, ds', as, as', h1, h2, c, c', pa, pb, g, g', h3⟩ | ⟨a, b, C, n, word, ds, as, xs, h1, h2, c, pa, hb, hk, h3⟩
  · exact .inl ⟨a, b, C, C', n, n', word, word', ds, ds', as, as', h1, h2, c, c', pa.ext e, pb.ext e, g, g', h3⟩
  · exact .inr ⟨a, b, C, n, word, ds, as, xs, h1, h2, c, pa.ext e, e _ _ hb, hk, h3⟩
theorem DL.mon {K : PySem.W.Frag} {CP fEq : Addr} : Mon fun x y H => DL K CP fEq x y H true := by
  rintro x y H H' e ⟨a, C, dx, fs, h1, h2, h3, h4, h5⟩
  exact ⟨a, C, dx, fs, h1, e _ _ h2, h3, RightOf.ext h4 e, DPap.ext e h5⟩
section
variable {X : Cx} {c : CS} {fd : FuncData}
theorem DL.eqG (F : FnOk X.prog X.w X.K X.mg X.base CX0 6 c.eq fd ["self", "other"] (spEqB (DPap X.K c.P c.eq 4))) (hb : Binds X.K fd ["self", "other"] []) : EqG X 6 (fun x y H => DL X.K c.P c.eq x y H true) :=
  (rcB_left F hb).rcG.eqG fun x y H d => by
    obtain ⟨a, C, dx, fs, h1, h2, h3, h4, h5⟩ := d
    cases h4 with
    | ins h n => exact ⟨a, _, h1, rfl⟩
    | lst h n => exact ⟨a, _, h1, rfl⟩
end
end P45

/-! k45: the law's loop: the first tests. -/
namespace P45
open PySem L2 M45
theorem rs_ix {c : CS} {xs ys : Nat → Addr} {d1 d2 d3 : PyData} {i : Nat} {r r' : PR} (h : (rsOf c xs d1 d2 d3)[i]? = some r) (h' : (rsOf c ys d1 d2 d3)[i]? = some r') : r'.C = r.C ∧ r'.n = r.n ∧ r'.word = r.word ∧ r'.as = r.as ∧ r'.ds = r.ds ∧ r'.b = r.b := by
  match i, h, h' with
  | 0, h, h' | 1, h, h' | 2, h, h' | 3, h, h' | 4, h, h' | 5, h, h' | 6, h, h' | 7, h, h' => cases h; cases h'; exact ⟨rfl, rfl, rfl, rfl, rfl, rfl⟩
  | i + 8, h, h' => simp [rsOf] at h
theorem words_ok : ∀ w ∈ (["dies", "lives", "both", "unmet", "deaths", "freed", "torn", "needed", "paper", "denial"] : List Str), PyData.strOk w = true := by decide +kernel
theorem rs_ds {c : CS} {xs : Nat → Addr} {d1 d2 d3 : PyData} (h1 : Dr 2 d1) (h2 : Dr 2 d2) (h3 : Dr 2 d3) {r : PR} (h : r ∈ rsOf c xs d1 d2 d3) : (∀ d ∈ r.ds, Dr 2 d) ∧ r.ds.length ≤ 3 ∧ PyData.strOk r.word = true := by
  unfold rsOf at h
  simp only [List.mem_cons, List.not_mem_nil, or_false] at h
  rcases h with rfl | rfl | rfl | rfl | rfl | rfl | rfl | rfl <;>
  · refine ⟨fun d hd => ?_, by simp, words_ok _ (by simp)⟩
    simp only [List.mem_cons, List.not_mem_nil, or_false] at hd
    first
      | (rcases hd with rfl | rfl | rfl <;> assumption)
      | (rcases hd with rfl | rfl <;> assumption)
      | (subst hd; assumption)
section
variable {P : Program} {w : World} {K : PySem.W.Frag} {mg : Str → Option Value} {base : Heap} {c : CS} {f : Addr} {cdv : Value} {A : Around} {outer : List Env} {s : Shared} {H0 : Hp} {E : XK}
theorem LawF.kinOf (F : LawF P w K mg base c) {xs : Nat → Addr} {d1 d2 d3 : PyData} {r : PR} (h : r ∈ rsOf c xs d1 d2 d3) : Kin K c r.C r.n r.b ∧ (∀ a ∈ r.as, NoAttr K r.C a) ∧ r.C ∈ [c.dies, c.lives, c.both, c.unmet, c.deaths, c.freed, c.torn, c.needed] := by
  have k := F.kin
  unfold rsOf at h k
  simp only [List.mem_cons, List.not_mem_nil, or_false, forall_eq_or_imp, forall_eq] at h k
  obtain ⟨k0, k1, k2, k3, k4, k5, k6, k7⟩ := k
  rcases h with rfl | rfl | rfl | rfl | rfl | rfl | rfl | rfl
  · exact ⟨k0.1, by simpa using k0.2, by simp⟩
  · exact ⟨k1.1, by simpa using k1.2, by simp⟩
  · exact ⟨k2.1, by simpa using k2.2, by simp⟩
  · exact ⟨k3.1, by simpa using k3.2, by simp⟩
  · exact ⟨k4.1, by simpa using k4.2, by simp⟩
  · exact ⟨k5.1, by simpa using k5.2, by simp⟩
  · exact ⟨k6.1, by simpa using k6.2, by simp⟩
  · exact ⟨k7.1, by simpa using k7.2, by simp⟩
theorem rs_good {c : CS} {xs : Nat → Addr} {d1 d2 d3 : PyData} (h1 : Dr 2 d1) (h2 : Dr 2 d2) (h3 : Dr 2 d3) {r : PR} (h : r ∈ rsOf c xs d1 d2 d3) : Good 4 (.tuple [.str r.word, .tuple (r.ds.map told)]) := by
  obtain ⟨g1, g2, g3⟩ := rs_ds h1 h2 h3 h
  exact good_of g3 (told_good g1) (by rw [List.length_map]; omega)
theorem law6 (F : LawF P w K mg base c) (hr : Room 10 (LX P w K mg base f cdv A outer s H0 E).A) : ∃ t, PS (LX P w K mg base f cdv A outer s H0 E) (lp 5) t ∧ ∀ (D : Ends) (H : Hp) (p tl pl nl : Addr) (xs ys : Nat → Addr) (a0 a2 a3 a7 a11 a12 a13 a14 a15 a16 a17 a18 : Option V) (v1 v2 v3 t1 t2 t3 : V) (d1 d2 d3 : PyData), Dr 2 d1 → Dr 2 d2 → Dr 2 d3 → LS K p v1 v2 v3 d1 d2 d3 tl t1 t2 t3 pl (rsOf c xs d1 d2 d3) H →
    H nl = some (.lst ((rsOf c ys d1 d2 d3).map fun r => V.ref r.x)) → (∀ r ∈ rsOf c ys d1 d2 d3, PAt K H r.x r.C r.word (r.ds.map told) r.as) →
    (∀ H', Ext H H' → D.nx (sgm a0 p a2 a3 (some v1) (some v2) (some v3) a7 (some (.ref tl)) (some (.ref pl)) (some (.ref nl)) a11 a12 a13 a14 a15 a16 a17 a18) H') →
    t D (sgm a0 p a2 a3 (some v1) (some v2) (some v3) a7 (some (.ref tl)) (some (.ref pl)) (some (.ref nl)) a11 a12 a13 a14 a15 a16 a17 a18) H := by
  obtain ⟨fdE, GE, bE⟩ := F.eqs
  refine ⟨_, ps_if (PW.pt (pw_or (pt_cmpR (op_neL DL.mon (DL.eqG (c := c) GE bE) (hr.mono (by omega))) (pv 9) (pv 10) (nomark _))
    (pw_or1 (pt_cmpR (op_neL mon_flat eqG_flat (hr.mono (by omega))) (pe_lc (own := [("paper", 11)]) (g := gName 11) (tt := tYes) (te := tFld K (tVar 11) "word") rfl scLw.nd (pi_list (pv 9)) (blkOk_by (N := lawN) (sc := defScope sLaw) (by decide +kernel))
      (fun _ _ _ _ _ => pg_name (i := 11) scLw.nd rfl (Or.inl rfl)) (fun _ _ _ _ _ => pts_nil) (fun _ _ _ _ _ => pe_fld (pv 11) rfl))
      (pe_lst (pa_cons pe_str (pa_cons pe_str (pa_cons pe_str (pa_cons pe_str (pa_cons pe_str (pa_cons pe_str (pa_cons pe_str (pa_cons pe_str pa_nil))))))))) (nomark _))))) (pss_one (ps_ret pe_bl)) pss_nil, ?_⟩
  intro D H p tl pl nl xs ys a0 a2 a3 a7 a11 a12 a13 a14 a15 a16 a17 a18 v1 v2 v3 t1 t2 t3 d1 d2 d3 r1 r2 r3 S hn hw k
  refine ⟨_, rfl, _, rfl, pl, nl, _, _, rfl, rfl, S.pl, hn, ⟨by simp [rsOf], fun i x y hx hy => ?_⟩, fun H1 e1 => ⟨_, rfl, iteF ?_⟩⟩
  · rw [List.getElem?_map] at hx hy
    obtain ⟨r, hr1, rfl⟩ := Option.map_eq_some_iff.mp hx
    obtain ⟨r', hr2, rfl⟩ := Option.map_eq_some_iff.mp hy
    have m1 := List.mem_of_getElem? hr1
    have m2 := List.mem_of_getElem? hr2
    obtain ⟨q1, q2, q3, q4, q5, q6⟩ := rs_ix hr1 hr2
    obtain ⟨kn, _, km⟩ := F.kinOf m1
    have p2 := hw r' m2
    rw [q1, q3, q4, q5] at p2
    have g := rs_good r1 r2 r3 m1
    have d := dl_of kn.pc kn.pc (S.ps r m1) p2 (kn.nf _ km) g g
    rw [decide_eq_true rfl, alike_refl g.fl] at d
    exact d
  · have S1 := S.ext e1
    refine ⟨_, rfl, pl, rfl, ⟨_, SqL.of S1.pl⟩, fun L hL => lc_map (vals := (rsOf c xs d1 d2 d3).map fun r => V.str r.word) (by simp [rsOf]) (by show 8 ≤ 1000; decide) hL (SqL.of S1.pl) ?_ ?_⟩
    · intro i x v H2 k' N hx hv e2 hk
      rw [List.getElem?_map] at hx hv
      obtain ⟨r, hr1, rfl⟩ := Option.map_eq_some_iff.mp hx
      obtain ⟨r', hr2, rfl⟩ := Option.map_eq_some_iff.mp hv
      rw [hr1] at hr2
      cases hr2
      have m1 := List.mem_of_getElem? hr1
      obtain ⟨kn, _, km⟩ := F.kinOf m1
      obtain ⟨dx, fs, t, zs, z1, z2, z3, z4, z5, z6, z7⟩ := ((S1.ps r m1).ext e2).ex
      exact ⟨rfl, _, rfl, r.x, r.C, dx, fs, _, rfl, z1, kn.pc.cl, kn.pc.nW, z2, hk _ Ext.rfl'⟩
    · intro H2 e2 hL2
      refine ⟨(by show 8 ≤ sizeLine; decide), fun M hM => ?_⟩
      refine ⟨L, M, _, _, rfl, rfl, (Ext.upd hM) _ _ hL2, upd_same, ?_, fun H3 e3 => ⟨_, rfl, iteF (k H3 ?_)⟩⟩
      · exact prs_flat fun x hx => by
          obtain ⟨r, _, rfl⟩ := List.mem_map.mp hx
          exact flat_str _
      · exact ((e1.trans e2).trans (Ext.upd hM)).trans e3
end
end P45

/-! k45: the law's loop: bools, sizes, what is shown. -/
namespace P45
open PySem L2 M45
/-- bool of a paper -/
def rBoo (K : PySem.W.Frag) (c : CS) : List V → Hp → VK → Prop := fun xs H Q => (∃ a C dx fs, xs = [.ref a] ∧ H a = some (.ins C dx fs) ∧ OwnB K C c.pb ∧ Q (.bl true) H) ∨ ∃ a C dx fs, xs = [.ref a] ∧ H a = some (.ins C dx fs) ∧ OwnB K C c.db ∧ Q (.bl false) H
section
variable {P : Program} {w : World} {K : PySem.W.Frag} {mg : Str → Option Value} {base : Heap} {c : CS} {f : Addr} {cdv : Value} {A : Around} {outer : List Env} {s : Shared} {H0 : Hp} {E : XK}
theorem law7 (F : LawF P w K mg base c) (hr : Room 10 (LX P w K mg base f cdv A outer s H0 E).A) : ∃ t, PS (LX P w K mg base f cdv A outer s H0 E) (lp 6) t ∧ ∀ (D : Ends) (H : Hp) (p tl pl : Addr) (xs : Nat → Addr) (a0 a2 a3 a7 a10 a11 a12 a13 a14 a15 a16 a17 a18 : Option V) (v1 v2 v3 t1 t2 t3 : V) (d1 d2 d3 : PyData), LS K p v1 v2 v3 d1 d2 d3 tl t1 t2 t3 pl (rsOf c xs d1 d2 d3) H →
    (∀ H', Ext H H' → D.nx (sgm a0 p a2 a3 (some v1) (some v2) (some v3) a7 (some (.ref tl)) (some (.ref pl)) a10 a11 a12 a13 a14 a15 a16 a17 a18) H') →
    t D (sgm a0 p a2 a3 (some v1) (some v2) (some v3) a7 (some (.ref tl)) (some (.ref pl)) a10 a11 a12 a13 a14 a15 a16 a17 a18) H := by
  obtain ⟨fdP, GP, bP⟩ := F.pbs
  obtain ⟨fdD, GD, bD⟩ := F.dbs
  refine ⟨_, ps_if (pt_cmpR (op_neL mon_flat eqG_flat (hr.mono (by omega))) (pe_lc (own := [("paper", 11)]) (g := gName 11) (tt := tYes) (te := tCB (rBoo K c) (tCons (tVar 11) tNil)) rfl scLw.nd (pi_list (pv 9)) (blkOk_by (N := lawN) (sc := defScope sLaw) (by decide +kernel))
      (fun _ _ _ _ _ => pg_name (i := 11) scLw.nd rfl (Or.inl rfl)) (fun _ _ _ _ _ => pts_nil) (fun _ _ _ _ _ => pe_callTy (CallR.or (call_boolI GP bP (hr.mono (by omega))) (call_boolI GD bD (hr.mono (by omega)))) (by rfl) F.bl.boo (by decide +kernel) (pa_cons (pv 11) pa_nil)))
      (pe_lst (pa_cons pe_bl (pa_cons pe_bl (pa_cons pe_bl (pa_cons pe_bl (pa_cons pe_bl (pa_cons pe_bl (pa_cons pe_bl (pa_cons pe_bl pa_nil))))))))) (nomark _)) (pss_one (ps_ret pe_bl)) pss_nil, ?_⟩
  intro D H p tl pl xs a0 a2 a3 a7 a10 a11 a12 a13 a14 a15 a16 a17 a18 v1 v2 v3 t1 t2 t3 d1 d2 d3 S k
  refine ⟨_, rfl, pl, rfl, ⟨_, SqL.of S.pl⟩, fun L hL => lc_map (vals := (rsOf c xs d1 d2 d3).map fun r => V.bl r.b) (by simp [rsOf]) (by show 8 ≤ 1000; decide) hL (SqL.of S.pl) ?_ ?_⟩
  · intro i x v H2 k' N hx hv e2 hk
    rw [List.getElem?_map] at hx hv
    obtain ⟨r, hr1, rfl⟩ := Option.map_eq_some_iff.mp hx
    obtain ⟨r', hr2, rfl⟩ := Option.map_eq_some_iff.mp hv
    rw [hr1] at hr2
    cases hr2
    have m1 := List.mem_of_getElem? hr1
    obtain ⟨kn, _, km⟩ := F.kinOf m1
    obtain ⟨dx, fs, t, zs, z1, _⟩ := ((S.ps r m1).ext e2).ex
    have ob := kn.bo
    refine ⟨rfl, _, rfl, ?_⟩
    cases hb : r.b with
    | true =>
      rw [hb] at ob hk
      exact .inl ⟨r.x, r.C, dx, fs, rfl, z1, ob, hk _ Ext.rfl'⟩
    | false =>
      rw [hb] at ob hk
      exact .inr ⟨r.x, r.C, dx, fs, rfl, z1, ob, hk _ Ext.rfl'⟩
  · intro H2 e2 hL2
    refine ⟨(by show 8 ≤ sizeLine; decide), fun M hM => ?_⟩
    refine ⟨L, M, _, _, rfl, rfl, (Ext.upd hM) _ _ hL2, upd_same, ?_, fun H3 e3 => ⟨_, rfl, iteF (k H3 ?_)⟩⟩
    · exact prs_flat fun x hx => by
        obtain ⟨r, _, rfl⟩ := List.mem_map.mp hx
        exact flat_bl _
    · exact (e2.trans (Ext.upd hM)).trans e3
theorem law8 : ∃ t, PS (LX P w K mg base f cdv A outer s H0 E) (lp 7) t ∧ ∀ (D : Ends) (H : Hp) (p : Addr) (a0 a2 a3 a4 a5 a6 a7 a8 a9 a10 a11 a12 a13 a14 a15 a16 a17 a18 : Option V),
    (∀ sl H', Ext H H' → H' sl = some (.lst (([2, 2, 2, 1, 2, 2, 3, 2] : List Nat).map fun n => V.int (n : Nat))) → D.nx (sgm a0 p a2 a3 a4 a5 a6 a7 a8 a9 a10 a11 (some (.ref sl)) a13 a14 a15 a16 a17 a18) H') →
    t D (sgm a0 p a2 a3 a4 a5 a6 a7 a8 a9 a10 a11 a12 a13 a14 a15 a16 a17 a18) H := by
  refine ⟨_, ps_set (i := 12) scLw.nd rfl (Or.inl rfl) (pe_lst (pa_cons pe_int (pa_cons pe_int (pa_cons pe_int (pa_cons pe_int (pa_cons pe_int (pa_cons pe_int (pa_cons pe_int (pa_cons pe_int pa_nil))))))))), ?_⟩
  intro D H p a0 a2 a3 a4 a5 a6 a7 a8 a9 a10 a11 a12 a13 a14 a15 a16 a17 a18 k
  exact ⟨(by show 8 ≤ sizeLine; decide), fun sl hs => k sl _ (Ext.upd hs) upd_same⟩
end
end P45

/-! k45: the law's loop: parts as they are shown. -/
namespace P45
open PySem L2 M45
def szs : List Nat := [2, 2, 2, 1, 2, 2, 3, 2]
def rTupOf (K : PySem.W.Frag) : List V → Hp → VK → Prop := fun xs H Q => ∃ p ys, xs = [.ref p] ∧ ((SqL K H p ys ∧ ∀ l, H l = none → Q (.ref l) (upd H l (.tup ys))) ∨ (SqT K H p ys ∧ Q (.ref p) H))
theorem cut_take {a b e : V} {n : Nat} (h : n ≤ 3) : cutV [a, b, e] none (some (n : Int)) = [a, b, e].take n := by
  match n, h with
  | 0, _ => rfl
  | 1, _ => rfl
  | 2, _ => rfl
  | 3, _ => rfl
theorem dp_take {K : PySem.W.Frag} {H : Hp} : ∀ {vs : List V} {ds : List PyData} (n : Nat), DpAll K H vs ds → DpAll K H (vs.take n) (ds.take n)
  | _, _, 0, _ => .nil
  | _, _, _ + 1, .nil => .nil
  | _, _, n + 1, .cons h t => .cons h (dp_take n t)
theorem parts_nice {ds : List PyData} (h : ∀ d ∈ ds, Dr 2 d) (hl : ds.length ≤ 3) : Nice 3 (3 * (bnd 2 + 2) + 3) (.tuple (ds.map told)) := by
  refine Nice.tup (fun d hd => ?_) (by rw [List.length_map]; exact hl) (by decide)
  obtain ⟨y, hy, rfl⟩ := List.mem_map.mp hd
  exact Tl.nice (h y hy).told
section
variable {P : Program} {w : World} {K : PySem.W.Frag} {mg : Str → Option Value} {base : Heap} {c : CS} {f : Addr} {cdv : Value} {A : Around} {outer : List Env} {s : Shared} {H0 : Hp} {E : XK}
theorem law9 (F : LawF P w K mg base c) (hr : Room 10 (LX P w K mg base f cdv A outer s H0 E).A) (hgd : (LX P w K mg base f cdv A outer s H0 E).A.guards = some []) : ∃ t, PS (LX P w K mg base f cdv A outer s H0 E) (lp 8) t ∧ ∀ (D : Ends) (H : Hp) (p tl pl sl : Addr) (xs : Nat → Addr) (a0 a2 a3 a7 a10 a11 a13 a14 a15 a16 a17 a18 : Option V) (v1 v2 v3 t1 t2 t3 : V) (d1 d2 d3 : PyData), Dr 2 d1 → Dr 2 d2 → Dr 2 d3 → LS K p v1 v2 v3 d1 d2 d3 tl t1 t2 t3 pl (rsOf c xs d1 d2 d3) H →
    H sl = some (.lst (szs.map fun n => V.int (n : Nat))) →
    (∀ H', Ext H H' → D.nx (sgm a0 p a2 a3 (some v1) (some v2) (some v3) a7 (some (.ref tl)) (some (.ref pl)) a10 a11 (some (.ref sl)) a13 a14 a15 a16 a17 a18) H') →
    t D (sgm a0 p a2 a3 (some v1) (some v2) (some v3) a7 (some (.ref tl)) (some (.ref pl)) a10 a11 (some (.ref sl)) a13 a14 a15 a16 a17 a18) H := by
  have hu : (LX P w K mg base f cdv A outer s H0 E).A.units + 64 < cLine := by have := hr.un; omega
  refine ⟨_, ps_if (pt_cmpR (op_neL mon_flat eqG_flat (hr.mono (by omega))) (pe_lc (own := [("paper", 11)]) (g := gName 11) (tt := tYes) (te := tCB (rRepr K) (tCons (tFld K (tVar 11) "parts") tNil)) rfl scLw.nd (pi_list (pv 9)) (blkOk_by (N := lawN) (sc := defScope sLaw) (by decide +kernel))
      (fun _ _ _ _ _ => pg_name (i := 11) scLw.nd rfl (Or.inl rfl)) (fun _ _ _ _ _ => pts_nil) (fun _ _ _ _ _ => pe_callB (call_repr hgd hu) (by rfl) F.bl.rep (by decide +kernel) (pa_cons (pe_fld (pv 11) rfl) pa_nil)))
      (pe_lc (own := [("size", 13)]) (g := gName 13) (tt := tYes) (te := tCB (rRepr K) (tCons (tCB (rTupOf K) (tCons (tSl (rSlL K) (tVar 8) tNoPart (tPart (tVar 13))) tNil)) tNil)) rfl scLw.nd (pi_list (pv 12)) (blkOk_by (N := lawN) (sc := defScope sLaw) (by decide +kernel))
      (fun _ _ _ _ _ => pg_name (i := 13) scLw.nd rfl (Or.inl rfl)) (fun _ _ _ _ _ => pts_nil) (fun _ _ _ _ _ => pe_callB (call_repr hgd hu) (by rfl) F.bl.rep (by decide +kernel) (pa_cons (pe_callTy call_tuple_of (by rfl) F.bl.tup (by decide +kernel) (pa_cons (pe_slice sl_list (pv 8) po_none (po_some (pv 13))) pa_nil)) pa_nil)))
      (nomark _)) (pss_one (ps_ret pe_bl)) pss_nil, ?_⟩
  intro D H p tl pl sl xs a0 a2 a3 a7 a10 a11 a13 a14 a15 a16 a17 a18 v1 v2 v3 t1 t2 t3 d1 d2 d3 r1 r2 r3 S hsl k
  refine ⟨_, rfl, pl, rfl, ⟨_, SqL.of S.pl⟩, fun L hL => lc_map (vals := (rsOf c xs d1 d2 d3).map fun r => V.str (PyData.tuple (r.ds.map told)).shown) (by simp [rsOf]) (by show 8 ≤ 1000; decide) hL (SqL.of S.pl) ?_ ?_⟩
  · intro i x v H2 k' N hx hv e2 hk
    rw [List.getElem?_map] at hx hv
    obtain ⟨r, hr1, rfl⟩ := Option.map_eq_some_iff.mp hx
    obtain ⟨r', hr2, rfl⟩ := Option.map_eq_some_iff.mp hv
    rw [hr1] at hr2
    cases hr2
    have m1 := List.mem_of_getElem? hr1
    obtain ⟨kn, _, km⟩ := F.kinOf m1
    obtain ⟨g1, g2, _⟩ := rs_ds r1 r2 r3 m1
    obtain ⟨dx, fs, t, zs, z1, z2, z3, z4, z5, z6, z7⟩ := ((S.ps r m1).ext e2).ex
    obtain ⟨n1, n2, n3, n4⟩ := (parts_nice g1 g2).repr (by decide) (by decide)
    exact ⟨rfl, _, rfl, r.x, r.C, dx, fs, _, rfl, z1, kn.pc.cl, kn.pc.nP, z3, _, _, rfl, .tup z4 z5, n1, n2, n3, n4, hk _ Ext.rfl'⟩
  · intro H2 e2 hL2
    have S2 := S.ext e2
    refine ⟨_, rfl, sl, rfl, ⟨_, SqL.of (e2 _ _ hsl)⟩, fun M hM => lc_map (vals := szs.map fun n => V.str (PyData.tuple ([told d1, told d2, told d3].take n)).shown) (by simp) (by show 8 ≤ 1000; decide) hM (SqL.of (e2 _ _ hsl)) ?_ ?_⟩
    · intro i x v H3 k' N hx hv e3 hk
      rw [List.getElem?_map] at hx hv
      obtain ⟨n, hr1, rfl⟩ := Option.map_eq_some_iff.mp hx
      obtain ⟨n', hr2, rfl⟩ := Option.map_eq_some_iff.mp hv
      rw [hr1] at hr2
      cases hr2
      have m1 := List.mem_of_getElem? hr1
      have hn : n ≤ 3 := by
        unfold szs at m1
        simp only [List.mem_cons, List.not_mem_nil, or_false] at m1
        omega
      have S3 := S2.ext e3
      refine ⟨rfl, _, rfl, _, rfl, _, rfl, tl, [t1, t2, t3], rfl, SqL.of S3.tl, fun u hu' => ?_⟩
      rw [cut_take hn]
      refine ⟨u, _, rfl, .inl ⟨SqL.of upd_same, fun l hl => ?_⟩⟩
      have e4 := (Ext.upd (o := .lst ([t1, t2, t3].take n)) hu').upd' (o := .tup ([t1, t2, t3].take n)) hl
      have dd : DpAll K (upd (upd H3 u (.lst ([t1, t2, t3].take n))) l (.tup ([t1, t2, t3].take n))) ([t1, t2, t3].take n) ([told d1, told d2, told d3].take n) :=
        dp_take n (Dp.extAll (hd_trans e4) _ _ (.cons S3.k1 (.cons S3.k2 (.cons S3.k3 .nil))))
      have nn : Nice 3 (3 * (bnd 2 + 2) + 3) (.tuple ([told d1, told d2, told d3].take n)) := by
        have q : ∀ d ∈ ([d1, d2, d3].take n), Dr 2 d := by
          intro d hd
          have := List.mem_of_mem_take hd
          simp only [List.mem_cons, List.not_mem_nil, or_false] at this
          rcases this with rfl | rfl | rfl <;> assumption
        have z := parts_nice q (by rw [List.length_take]; exact Nat.le_trans (Nat.min_le_right _ _) (by simp))
        rw [List.map_take] at z
        exact z
      obtain ⟨n1, n2, n3, n4⟩ := nn.repr (by decide) (by decide)
      exact ⟨_, _, rfl, .tup (SqT.of upd_same) dd, n1, n2, n3, n4, hk _ e4⟩
    · intro H3 e3 hM3
      refine ⟨L, M, _, _, rfl, rfl, e3 _ _ hL2, hM3, ?_, fun H4 e4 => ⟨_, rfl, iteF (k H4 ((e2.trans e3).trans e4))⟩⟩
      exact prs_flat fun x hx => by
        obtain ⟨r, _, rfl⟩ := List.mem_map.mp hx
        exact flat_str _
end
end P45

/-! k45: the law's loop: attributes. -/
namespace P45
open PySem L2 M45
theorem dpGet' {K : PySem.W.Frag} {H : Hp} {vs : List V} {ds : List PyData} {i : Nat} {d : PyData} (h : DpAll K H vs ds) (e : ds[i]? = some d) : ∃ v, vs[i]? = some v ∧ Dp K H v d := by
  have hi : i < ds.length := (List.getElem?_eq_some_iff.mp e).1
  have hv : vs[i]? = some (vs[i]'(by rw [dpLen h]; exact hi)) := List.getElem?_eq_getElem _
  obtain ⟨d', h1, h2⟩ := dpGet h hv
  rw [e] at h1
  cases h1
  exact ⟨_, hv, h2⟩
theorem PAt.attr {K : PySem.W.Frag} {H : Hp} {x C : Addr} {word : Str} {ds : List PyData} {as : List Str} {i : Nat} {a : Str} {d : PyData} (h : PAt K H x C word ds as) (e1 : as[i]? = some a) (e2 : ds[i]? = some d) : ∃ dx fs v, H x = some (.ins C dx fs) ∧ fs.lookup a = some v ∧ Dp K H v d := by
  obtain ⟨dx, fs, t, zs, z1, z2, z3, z4, z5, z6, z7⟩ := h.ex
  obtain ⟨v, hv, hd⟩ := dpGet' z5 e2
  exact ⟨dx, fs, v, z1, z6 i a v e1 hv, hd⟩
def ads (d1 d2 d3 : PyData) : List PyData := [told d1, told d2, told d2, told d1, told d1, told d1, told d1, told d3, told d1, told d2]
theorem ads_nice {d1 d2 d3 : PyData} (h1 : Dr 2 d1) (h2 : Dr 2 d2) (h3 : Dr 2 d3) : Nice 3 (10 * (bnd 2 + 2) + 3) (.list (ads d1 d2 d3)) := by
  refine Nice.list (fun d hd => ?_) (by show 10 ≤ 10; decide) (by decide)
  unfold ads at hd
  simp only [List.mem_cons, List.not_mem_nil, or_false] at hd
  rcases hd with rfl | rfl | rfl | rfl | rfl | rfl | rfl | rfl | rfl | rfl

  · exact Tl.nice h1.told
  · exact Tl.nice h2.told
  · exact Tl.nice h2.told
  · exact Tl.nice h1.told
  · exact Tl.nice h1.told
  · exact Tl.nice h1.told
  · exact Tl.nice h1.told
  · exact Tl.nice h3.told
  · exact Tl.nice h1.told
  · exact Tl.nice h2.told
section
variable {P : Program} {w : World} {K : PySem.W.Frag} {mg : Str → Option Value} {base : Heap} {c : CS} {f : Addr} {cdv : Value} {A : Around} {outer : List Env} {s : Shared} {H0 : Hp} {E : XK}
theorem law10 (F : LawF P w K mg base c) : ∃ t, PS (LX P w K mg base f cdv A outer s H0 E) (lp 9) t ∧ ∀ (D : Ends) (H : Hp) (p tl pl : Addr) (xs : Nat → Addr) (a0 a2 a3 a7 a10 a11 a12 a13 a14 a15 a16 a17 a18 : Option V) (v1 v2 v3 t1 t2 t3 : V) (d1 d2 d3 : PyData), LS K p v1 v2 v3 d1 d2 d3 tl t1 t2 t3 pl (rsOf c xs d1 d2 d3) H →
    (∀ al H', Ext H H' → Dp K H' (.ref al) (.list (ads d1 d2 d3)) → D.nx (sgm a0 p a2 a3 (some v1) (some v2) (some v3) a7 (some (.ref tl)) (some (.ref pl)) a10 a11 a12 a13 (some (.ref al)) a15 a16 a17 a18) H') →
    t D (sgm a0 p a2 a3 (some v1) (some v2) (some v3) a7 (some (.ref tl)) (some (.ref pl)) a10 a11 a12 a13 a14 a15 a16 a17 a18) H := by
  refine ⟨_, ps_set (i := 14) scLw.nd rfl (Or.inl rfl) (pe_lst (pa_cons (pe_fld (pe_ix ix_list (pv 9) pe_int fun _ _ => rfl) rfl) (pa_cons (pe_fld (pe_ix ix_list (pv 9) pe_int fun _ _ => rfl) rfl) (pa_cons (pe_fld (pe_ix ix_list (pv 9) pe_int fun _ _ => rfl) rfl) (pa_cons (pe_fld (pe_ix ix_list (pv 9) pe_int fun _ _ => rfl) rfl) (pa_cons (pe_fld (pe_ix ix_list (pv 9) pe_int fun _ _ => rfl) rfl) (pa_cons (pe_fld (pe_ix ix_list (pv 9) pe_int fun _ _ => rfl) rfl) (pa_cons (pe_fld (pe_ix ix_list (pv 9) pe_int fun _ _ => rfl) rfl) (pa_cons (pe_fld (pe_ix ix_list (pv 9) pe_int fun _ _ => rfl) rfl) (pa_cons (pe_fld (pe_ix ix_list (pv 9) pe_int fun _ _ => rfl) rfl) (pa_cons (pe_fld (pe_ix ix_list (pv 9) pe_int fun _ _ => rfl) rfl) pa_nil))))))))))), ?_⟩
  intro D H p tl pl xs a0 a2 a3 a7 a10 a11 a12 a13 a14 a15 a16 a17 a18 v1 v2 v3 t1 t2 t3 d1 d2 d3 S k
  have m0 : (⟨xs 0, c.dies, "Dies", "dies", ["run", "rows"], [d1, d2], true⟩ : PR) ∈ rsOf c xs d1 d2 d3 := by simp [rsOf]
  obtain ⟨dx0, fs0, u0, y0, l0, w0⟩ := (S.ps _ m0).attr (i := 0) (a := "run") (d := told d1) rfl rfl
  have k0 := F.kinOf m0
  have m1 : (⟨xs 0, c.dies, "Dies", "dies", ["run", "rows"], [d1, d2], true⟩ : PR) ∈ rsOf c xs d1 d2 d3 := by simp [rsOf]
  obtain ⟨dx1, fs1, u1, y1, l1, w1⟩ := (S.ps _ m1).attr (i := 1) (a := "rows") (d := told d2) rfl rfl
  have k1 := F.kinOf m1
  have m2 : (⟨xs 2, c.both, "Both", "both", ["run", "other"], [d1, d2], false⟩ : PR) ∈ rsOf c xs d1 d2 d3 := by simp [rsOf]
  obtain ⟨dx2, fs2, u2, y2, l2, w2⟩ := (S.ps _ m2).attr (i := 1) (a := "other") (d := told d2) rfl rfl
  have k2 := F.kinOf m2
  have m3 : (⟨xs 3, c.unmet, "Unmet", "unmet", ["rows"], [d1], false⟩ : PR) ∈ rsOf c xs d1 d2 d3 := by simp [rsOf]
  obtain ⟨dx3, fs3, u3, y3, l3, w3⟩ := (S.ps _ m3).attr (i := 0) (a := "rows") (d := told d1) rfl rfl
  have k3 := F.kinOf m3
  have m4 : (⟨xs 4, c.deaths, "Deaths", "deaths", ["spots", "rows"], [d1, d2], true⟩ : PR) ∈ rsOf c xs d1 d2 d3 := by simp [rsOf]
  obtain ⟨dx4, fs4, u4, y4, l4, w4⟩ := (S.ps _ m4).attr (i := 0) (a := "spots") (d := told d1) rfl rfl
  have k4 := F.kinOf m4
  have m5 : (⟨xs 5, c.freed, "Freed", "freed", ["frees", "rows"], [d1, d2], true⟩ : PR) ∈ rsOf c xs d1 d2 d3 := by simp [rsOf]
  obtain ⟨dx5, fs5, u5, y5, l5, w5⟩ := (S.ps _ m5).attr (i := 0) (a := "frees") (d := told d1) rfl rfl
  have k5 := F.kinOf m5
  have m6 : (⟨xs 6, c.torn, "Torn", "torn", ["shape", "run", "others"], [d1, d2, d3], false⟩ : PR) ∈ rsOf c xs d1 d2 d3 := by simp [rsOf]
  obtain ⟨dx6, fs6, u6, y6, l6, w6⟩ := (S.ps _ m6).attr (i := 0) (a := "shape") (d := told d1) rfl rfl
  have k6 := F.kinOf m6
  have m7 : (⟨xs 6, c.torn, "Torn", "torn", ["shape", "run", "others"], [d1, d2, d3], false⟩ : PR) ∈ rsOf c xs d1 d2 d3 := by simp [rsOf]
  obtain ⟨dx7, fs7, u7, y7, l7, w7⟩ := (S.ps _ m7).attr (i := 2) (a := "others") (d := told d3) rfl rfl
  have k7 := F.kinOf m7
  have m8 : (⟨xs 7, c.needed, "Needed", "needed", ["torn", "freed"], [d1, d2], true⟩ : PR) ∈ rsOf c xs d1 d2 d3 := by simp [rsOf]
  obtain ⟨dx8, fs8, u8, y8, l8, w8⟩ := (S.ps _ m8).attr (i := 0) (a := "torn") (d := told d1) rfl rfl
  have k8 := F.kinOf m8
  have m9 : (⟨xs 7, c.needed, "Needed", "needed", ["torn", "freed"], [d1, d2], true⟩ : PR) ∈ rsOf c xs d1 d2 d3 := by simp [rsOf]
  obtain ⟨dx9, fs9, u9, y9, l9, w9⟩ := (S.ps _ m9).attr (i := 1) (a := "freed") (d := told d2) rfl rfl
  have k9 := F.kinOf m9
  refine ⟨_, rfl, pl, _, 0, _, rfl, rfl, SqL.of S.pl, rfl, xs 0, c.dies, dx0, fs0, u0, rfl, y0, k0.1.pc.cl, k0.2.1 _ (by simp), l0, ?_⟩
  refine ⟨_, rfl, pl, _, 0, _, rfl, rfl, SqL.of S.pl, rfl, xs 0, c.dies, dx1, fs1, u1, rfl, y1, k1.1.pc.cl, k1.2.1 _ (by simp), l1, ?_⟩
  refine ⟨_, rfl, pl, _, 2, _, rfl, rfl, SqL.of S.pl, rfl, xs 2, c.both, dx2, fs2, u2, rfl, y2, k2.1.pc.cl, k2.2.1 _ (by simp), l2, ?_⟩
  refine ⟨_, rfl, pl, _, 3, _, rfl, rfl, SqL.of S.pl, rfl, xs 3, c.unmet, dx3, fs3, u3, rfl, y3, k3.1.pc.cl, k3.2.1 _ (by simp), l3, ?_⟩
  refine ⟨_, rfl, pl, _, 4, _, rfl, rfl, SqL.of S.pl, rfl, xs 4, c.deaths, dx4, fs4, u4, rfl, y4, k4.1.pc.cl, k4.2.1 _ (by simp), l4, ?_⟩
  refine ⟨_, rfl, pl, _, 5, _, rfl, rfl, SqL.of S.pl, rfl, xs 5, c.freed, dx5, fs5, u5, rfl, y5, k5.1.pc.cl, k5.2.1 _ (by simp), l5, ?_⟩
  refine ⟨_, rfl, pl, _, 6, _, rfl, rfl, SqL.of S.pl, rfl, xs 6, c.torn, dx6, fs6, u6, rfl, y6, k6.1.pc.cl, k6.2.1 _ (by simp), l6, ?_⟩
  refine ⟨_, rfl, pl, _, 6, _, rfl, rfl, SqL.of S.pl, rfl, xs 6, c.torn, dx7, fs7, u7, rfl, y7, k7.1.pc.cl, k7.2.1 _ (by simp), l7, ?_⟩
  refine ⟨_, rfl, pl, _, 7, _, rfl, rfl, SqL.of S.pl, rfl, xs 7, c.needed, dx8, fs8, u8, rfl, y8, k8.1.pc.cl, k8.2.1 _ (by simp), l8, ?_⟩
  refine ⟨_, rfl, pl, _, 7, _, rfl, rfl, SqL.of S.pl, rfl, xs 7, c.needed, dx9, fs9, u9, rfl, y9, k9.1.pc.cl, k9.2.1 _ (by simp), l9, ?_⟩
  refine ⟨(by show 10 ≤ sizeLine; decide), fun al hal => k al _ (Ext.upd hal) (.lst (SqL.of upd_same) (Dp.extAll (Ext.upd hal) _ _ (.cons w0 (.cons w1 (.cons w2 (.cons w3 (.cons w4 (.cons w5 (.cons w6 (.cons w7 (.cons w8 (.cons w9 .nil))))))))))))⟩
theorem law11 (F : LawF P w K mg base c) (hr : Room 10 (LX P w K mg base f cdv A outer s H0 E).A) (hgd : (LX P w K mg base f cdv A outer s H0 E).A.guards = some []) : ∃ t, PS (LX P w K mg base f cdv A outer s H0 E) (lp 10) t ∧ ∀ (D : Ends) (H : Hp) (p tl pl al : Addr) (rs : List PR) (a0 a2 a3 a7 a10 a11 a12 a13 a15 a16 a17 a18 : Option V) (v1 v2 v3 t1 t2 t3 : V) (d1 d2 d3 : PyData), Dr 2 d1 → Dr 2 d2 → Dr 2 d3 → LS K p v1 v2 v3 d1 d2 d3 tl t1 t2 t3 pl rs H →
    Dp K H (.ref al) (.list (ads d1 d2 d3)) → (∀ H', Ext H H' → D.nx (sgm a0 p a2 a3 (some v1) (some v2) (some v3) a7 (some (.ref tl)) (some (.ref pl)) a10 a11 a12 a13 (some (.ref al)) a15 a16 a17 a18) H') → t D (sgm a0 p a2 a3 (some v1) (some v2) (some v3) a7 (some (.ref tl)) (some (.ref pl)) a10 a11 a12 a13 (some (.ref al)) a15 a16 a17 a18) H := by
  have hu : (LX P w K mg base f cdv A outer s H0 E).A.units + 64 < cLine := by have := hr.un; omega
  refine ⟨_, ps_if (pt_cmpR op_ne (pe_callB (call_repr hgd hu) (by rfl) F.bl.rep (by decide +kernel) (pa_cons (pv 14) pa_nil)) (pe_callB (call_repr hgd hu) (by rfl) F.bl.rep (by decide +kernel) (pa_cons (pe_lst (pa_cons (pe_ix ix_list (pv 8) pe_int fun _ _ => rfl) (pa_cons (pe_ix ix_list (pv 8) pe_int fun _ _ => rfl) (pa_cons (pe_ix ix_list (pv 8) pe_int fun _ _ => rfl) (pa_cons (pe_ix ix_list (pv 8) pe_int fun _ _ => rfl) (pa_cons (pe_ix ix_list (pv 8) pe_int fun _ _ => rfl) (pa_cons (pe_ix ix_list (pv 8) pe_int fun _ _ => rfl) (pa_cons (pe_ix ix_list (pv 8) pe_int fun _ _ => rfl) (pa_cons (pe_ix ix_list (pv 8) pe_int fun _ _ => rfl) (pa_cons (pe_ix ix_list (pv 8) pe_int fun _ _ => rfl) (pa_cons (pe_ix ix_list (pv 8) pe_int fun _ _ => rfl) pa_nil))))))))))) pa_nil)) (nomark _)) (pss_one (ps_ret pe_bl)) pss_nil, ?_⟩
  intro D H p tl pl al rs a0 a2 a3 a7 a10 a11 a12 a13 a15 a16 a17 a18 v1 v2 v3 t1 t2 t3 d1 d2 d3 r1 r2 r3 S ha k
  obtain ⟨n1, n2, n3, n4⟩ := (ads_nice r1 r2 r3).repr (by decide) (by decide)
  refine ⟨_, rfl, _, _, rfl, ha, n1, n2, n3, n4, ?_⟩
  refine ⟨_, rfl, tl, _, 0, _, rfl, rfl, SqL.of S.tl, rfl, ?_⟩
  refine ⟨_, rfl, tl, _, 1, _, rfl, rfl, SqL.of S.tl, rfl, ?_⟩
  refine ⟨_, rfl, tl, _, 1, _, rfl, rfl, SqL.of S.tl, rfl, ?_⟩
  refine ⟨_, rfl, tl, _, 0, _, rfl, rfl, SqL.of S.tl, rfl, ?_⟩
  refine ⟨_, rfl, tl, _, 0, _, rfl, rfl, SqL.of S.tl, rfl, ?_⟩
  refine ⟨_, rfl, tl, _, 0, _, rfl, rfl, SqL.of S.tl, rfl, ?_⟩
  refine ⟨_, rfl, tl, _, 0, _, rfl, rfl, SqL.of S.tl, rfl, ?_⟩
  refine ⟨_, rfl, tl, _, 2, _, rfl, rfl, SqL.of S.tl, rfl, ?_⟩
  refine ⟨_, rfl, tl, _, 0, _, rfl, rfl, SqL.of S.tl, rfl, ?_⟩
  refine ⟨_, rfl, tl, _, 1, _, rfl, rfl, SqL.of S.tl, rfl, ?_⟩
  refine ⟨(by show 10 ≤ sizeLine; decide), fun bl hb => ?_⟩
  have e : Ext (Hd p H) (upd H bl (.lst [t1, t2, t2, t1, t1, t1, t1, t3, t1, t2])) := hd_trans (Ext.upd hb)
  refine ⟨_, .list (ads d1 d2 d3), rfl, .lst (SqL.of upd_same) (.cons (Dp.ext e _ _ S.k1) (.cons (Dp.ext e _ _ S.k2) (.cons (Dp.ext e _ _ S.k2) (.cons (Dp.ext e _ _ S.k1) (.cons (Dp.ext e _ _ S.k1) (.cons (Dp.ext e _ _ S.k1) (.cons (Dp.ext e _ _ S.k1) (.cons (Dp.ext e _ _ S.k3) (.cons (Dp.ext e _ _ S.k1) (.cons (Dp.ext e _ _ S.k2) .nil)))))))))), n1, n2, n3, n4, rfl, _, rfl, ?_⟩
  rw [decide_eq_true rfl]
  exact iteF (k _ (Ext.upd hb))
end
end P45

/-! k45: the law's loop: every paper against those before it. -/
namespace P45
open PySem L2 M45
/-- for i, x in enumerate(xs), over a list that the body leaves as it is -/
theorem for_enum {K : PySem.W.Frag} {a : Addr} {xs : List V} {g : TG} {tb : TS} {D : Ends} {σ : L2.St} {H : Hp} (Pv : Nat → L2.St → Hp → Prop) (h0 : Pv 0 σ H) (hl : ∀ i σ H, i ≤ xs.length → Pv i σ H → SqL K H a xs)
    (hs : ∀ i x σ H T, xs[i]? = some x → Pv i σ H → H T = none → g (.ref T) σ (upd H T (.tup [.int (i : Nat), x])) fun σ2 H2 => tb { D with nx := Pv (i + 1), ct := Pv (i + 1), bk := D.nx } σ2 H2) (hd : ∀ σ H, Pv xs.length σ H → D.nx σ H) :
    ∃ W : Nat → Nat → L2.St → Hp → Prop, (∃ m, W 0 m σ H) ∧ ∀ i m σ H, W i m σ H →
      ((Ite K a).stop i H ∧ D.nx σ H) ∨ ((Ite K a).go i H ∧ ∃ N : L2.St → Hp → Prop, (∀ σ' H', N σ' H' → ∃ m', m' < m ∧ W (i + 1) m' σ' H') ∧ ∀ x H', (Ite K a).yld i H x H' → g x σ H' fun σ2 H2 => tb { D with nx := N, ct := N, bk := D.nx } σ2 H2) := by
  refine ⟨fun i m σ H => m = xs.length - i ∧ i ≤ xs.length ∧ Pv i σ H, ⟨xs.length, by simp, Nat.zero_le _, h0⟩, ?_⟩
  rintro i m σ H ⟨rfl, hi, p⟩
  have q := hl i σ H hi p
  by_cases hlt : i < xs.length
  · refine .inr ⟨⟨xs, xs[i], q, by simp [hlt]⟩, Pv (i + 1), fun σ' H' p' => ⟨xs.length - (i + 1), by omega, rfl, hlt, p'⟩, fun x H' y => ?_⟩
    obtain ⟨T, z, rfl, hT, rfl, hz⟩ := y
    exact hs i z σ H T (hz xs q) p hT
  · have e : i = xs.length := by omega
    subst e
    exact .inl ⟨⟨xs, q, Nat.le_refl _⟩, hd σ H p⟩
def DN (K : PySem.W.Frag) (CP fEq : Addr) : EqB := fun x y H r => DL K CP fEq x y H (!r)
theorem rs_names {c : CS} {xs : Nat → Addr} {d1 d2 d3 : PyData} {i j : Nat} {r r' : PR} (h : (rsOf c xs d1 d2 d3)[i]? = some r) (h' : (rsOf c xs d1 d2 d3)[j]? = some r') (ne : i ≠ j) : r.n ≠ r'.n := by
  have nd : ((rsOf c xs d1 d2 d3).map PR.n).Nodup := by
    show (["Dies", "Lives", "Both", "Unmet", "Deaths", "Freed", "Torn", "Needed"] : List Str).Nodup
    decide +kernel
  intro z
  have e1 : ((rsOf c xs d1 d2 d3).map PR.n)[i]? = some r.n := by rw [List.getElem?_map, h]; rfl
  have e2 : ((rsOf c xs d1 d2 d3).map PR.n)[j]? = some r'.n := by rw [List.getElem?_map, h']; rfl
  have hi := (List.getElem?_eq_some_iff.mp e1).1
  exact ne ((List.getElem?_inj hi nd).mp (by rw [e1, e2, z]))
theorem cut_rs {c : CS} {xs : Nat → Addr} {d1 d2 d3 : PyData} {n : Nat} (h : n ≤ 8) : cutV ((rsOf c xs d1 d2 d3).map fun r => V.ref r.x) none (some (n : Int)) = ((rsOf c xs d1 d2 d3).map fun r => V.ref r.x).take n := by
  match n, h with
  | 0, _ | 1, _ | 2, _ | 3, _ | 4, _ | 5, _ | 6, _ | 7, _ | 8, _ => rfl
section
variable {P : Program} {w : World} {K : PySem.W.Frag} {mg : Str → Option Value} {base : Heap} {c : CS} {f : Addr} {cdv : Value} {A : Around} {outer : List Env} {s : Shared} {H0 : Hp} {E : XK}
theorem law12 (F : LawF P w K mg base c) (hr : Room 10 (LX P w K mg base f cdv A outer s H0 E).A) : ∃ t, PS (LX P w K mg base f cdv A outer s H0 E) (lp 11) t ∧ ∀ (D : Ends) (H : Hp) (p tl pl : Addr) (xs : Nat → Addr) (a0 a2 a3 a7 a10 a11 a12 a13 a14 a15 a16 a17 a18 : Option V) (v1 v2 v3 t1 t2 t3 : V) (d1 d2 d3 : PyData), Dr 2 d1 → Dr 2 d2 → Dr 2 d3 → LS K p v1 v2 v3 d1 d2 d3 tl t1 t2 t3 pl (rsOf c xs d1 d2 d3) H →
    (∀ b11 b15 H', Ext H H' → D.nx (sgm a0 p a2 a3 (some v1) (some v2) (some v3) a7 (some (.ref tl)) (some (.ref pl)) a10 b11 a12 a13 a14 b15 a16 a17 a18) H') →
    t D (sgm a0 p a2 a3 (some v1) (some v2) (some v3) a7 (some (.ref tl)) (some (.ref pl)) a10 a11 a12 a13 a14 a15 a16 a17 a18) H := by
  obtain ⟨fdE, GE, bE⟩ := F.eqs
  refine ⟨_, ps_for PassesOwn.never rfl (pi_enum rfl F.bl.enu (pa_cons (pv 9) pa_nil)) (pg_tup rfl (pgs_cons (pg_name (i := 15) scLw.nd rfl (Or.inl rfl)) (pgs_cons (pg_name (i := 11) scLw.nd rfl (Or.inr rfl)) pgs_nil)))
    (pss_one (ps_if (pt_cmpR (op_neL mon_flat eqG_flat (hr.mono (by omega))) (pe_lc (own := [("other", 16)]) (g := gName 16) (tt := tOr (tTest (tOp (rCmpB (DL K c.P c.eq)) (tVar 11) (tVar 16))) (tNot (tTest (tOp (rCmpB (DN K c.P c.eq)) (tVar 11) (tVar 16))))) (te := tVar 16) rfl scLw.nd
      (pi_list (pe_slice sl_list (pv 9) po_none (po_some (pv 15)))) (blkOk_by (N := lawN) (sc := defScope sLaw) (by decide +kernel))
      (fun _ _ _ _ _ => pg_name (i := 16) scLw.nd rfl (Or.inl rfl)) (fun _ _ _ _ _ => pts_one (PW.pt (pw_or (pt_cmpR (op_eqB (rcB_left GE bE) (hr.mono (by omega))) (pv 11) (pv 16) (nomark _)) (pw_or1 (pt_not (pt_cmpR (op_neB (rcB_ne GE bE) (hr.mono (by omega))) (pv 11) (pv 16) (nomark _)))))))
      (fun _ _ _ _ _ => pv 16)) (pe_lst pa_nil) (nomark _)) (pss_one (ps_ret pe_bl)) pss_nil)), ?_⟩
  intro D H p tl pl xs a0 a2 a3 a7 a10 a11 a12 a13 a14 a15 a16 a17 a18 v1 v2 v3 t1 t2 t3 d1 d2 d3 r1 r2 r3 S k
  refine ⟨_, rfl, pl, _, rfl, SqL.of S.pl, for_enum (K := K) (a := pl) (xs := (rsOf c xs d1 d2 d3).map fun r => V.ref r.x)
    (fun i σ H' => Ext H H' ∧ ∃ b11 b15, σ = sgm a0 p a2 a3 (some v1) (some v2) (some v3) a7 (some (.ref tl)) (some (.ref pl)) a10 b11 a12 a13 a14 b15 a16 a17 a18) ⟨Ext.rfl', _, _, rfl⟩ (fun i σ H' _ q => SqL.of (q.1 _ _ S.pl)) ?_ ?_⟩
  · rintro i x σ H1 T hx ⟨e1, b11, b15, rfl⟩ hT
    rw [List.getElem?_map] at hx
    obtain ⟨r, hr1, rfl⟩ := Option.map_eq_some_iff.mp hx
    have m1 := List.mem_of_getElem? hr1
    have hi : i < 8 := (List.getElem?_eq_some_iff.mp hr1).1
    have e2 : Ext H (upd H1 T (.tup [.int (i : Nat), .ref r.x])) := e1.upd' hT
    refine ⟨T, _, rfl, SqT.of upd_same, rfl, _, _, rfl, _, _, rfl, rfl, ?_⟩
    refine ⟨_, rfl, _, rfl, _, rfl, pl, _, rfl, SqL.of (e2 _ _ S.pl), fun u hu => ?_⟩
    rw [cut_rs (by omega)]
    have e3 := e2.upd' (o := .lst (((rsOf c xs d1 d2 d3).map fun r => V.ref r.x).take i)) hu
    refine ⟨u, rfl, ⟨_, SqL.of upd_same⟩, fun L hL => lc_none (xs := ((rsOf c xs d1 d2 d3).map fun r => V.ref r.x).take i) hL (SqL.of upd_same) ?_ ?_⟩
    · intro j y H2 k' N hy e4 hN
      rw [List.getElem?_take] at hy
      split at hy
      · rename_i hji
        rw [List.getElem?_map] at hy
        obtain ⟨r', hr2, rfl⟩ := Option.map_eq_some_iff.mp hy
        have m2 := List.mem_of_getElem? hr2
        have ne := rs_names hr1 hr2 (by omega)
        obtain ⟨kn, _, km⟩ := F.kinOf m1
        obtain ⟨kn2, _, km2⟩ := F.kinOf m2
        have S2 := S.ext (e3.trans e4)
        have d := dl_of kn.pc kn2.pc (S2.ps r m1) (S2.ps r' m2) (kn.nf _ km2) (rs_good r1 r2 r3 m1) (rs_good r1 r2 r3 m2)
        rw [decide_eq_false ne, Bool.false_and] at d
        refine ⟨rfl, _, rfl, _, rfl, false, d, fun H3 e5 => ⟨_, rfl, iteF ?_⟩⟩
        have S3 := S.ext ((e3.trans e4).trans e5)
        have d' := dl_of kn.pc kn2.pc (S3.ps r m1) (S3.ps r' m2) (kn.nf _ km2) (rs_good r1 r2 r3 m1) (rs_good r1 r2 r3 m2)
        rw [decide_eq_false ne, Bool.false_and] at d'
        exact ⟨_, rfl, _, rfl, true, d', fun H4 e6 => ⟨_, rfl, hN H4 (e5.trans e6)⟩⟩
      · cases hy
    · intro H2 e4 hL2
      refine ⟨(by show 0 ≤ sizeLine; decide), fun M hM => ⟨L, M, _, _, rfl, rfl, (Ext.upd hM) _ _ hL2, upd_same, Prs.nil, fun H3 e5 => ⟨_, rfl, iteF ?_⟩⟩⟩
      exact ⟨(((e3.trans e4).trans (Ext.upd hM)).trans e5), _, _, rfl⟩
  · rintro σ H1 ⟨e1, b11, b15, rfl⟩
    exact k b11 b15 H1 e1
end
end P45

/-! k45: the law's loop: the bent one; the last test. -/
namespace P45
open PySem L2 M45
theorem Fl.told {d : PyData} (h : Fl d) : told d = d := by
  induction h with
  | tuple _ ih =>
    rw [told_tuple]
    congr 1
    exact (List.map_congr_left ih).trans (List.map_id' _)
  | _ => simp only [M45.told]
theorem alike_bent {n m : Nat} {word : Str} {b d e : PyData} (hb : Tl n b) (hd : Tl m d) (he : Fl e) : alike (.tuple [.str word, .tuple [b, e]]) (.tuple [.str word, .tuple [d, e]]) = decide (V.str b.shown = V.str d.shown) := by
  rw [alike_parts, alikeAll_cons, alikeAll_cons, alike_refl he, alike_shown hb hd, dec_str]
  simp [alikeAll]
  rw [Bool.eq_iff_iff]
  simp
theorem alike_bent3 {n m : Nat} {word : Str} {b d e g : PyData} (hb : Tl n b) (hd : Tl m d) (he : Fl e) (hg : Fl g) : alike (.tuple [.str word, .tuple [g, e, b]]) (.tuple [.str word, .tuple [g, e, d]]) = decide (V.str b.shown = V.str d.shown) := by
  rw [alike_parts, alikeAll_cons, alikeAll_cons, alikeAll_cons, alike_refl he, alike_refl hg, alike_shown hb hd, dec_str]
  simp [alikeAll]
  rw [Bool.eq_iff_iff]
  simp
/-- a paper of Paper's own __init__ -/
theorem pat_raw {K : PySem.W.Frag} {H : Hp} {x C dx t : Addr} {word : Str} {xs : List V} {ds : List PyData} (h1 : H x = some (.ins C dx (putF "parts" (.ref t) (putF "word" (.str word) [])))) (h2 : SqT K H t xs) (h3 : DpAll K H xs ds) : PAt K H x C word ds [] := by
  refine ⟨dx, _, t, xs, h1, rfl, rfl, h2, h3, fun i a v h => by simp at h, fun m m1 m2 _ => ?_⟩
  simp only [lookup_putF]
  rw [if_neg m2, if_neg m1]
  rfl
def tMkS (K : PySem.W.Frag) (C : Addr) (ta : TA) : TE := fun σ H Q => ta σ H fun vs H1 => ∃ (word : Str) (rest : List V) (ds : List PyData), vs = .str word :: rest ∧ DpAll K H1 rest ds ∧ ds.length ≤ 1000 ∧ (∀ d ∈ ds, Fits 2 d) ∧ ∀ x H2, Ext H1 H2 → PAt K H2 x C word (ds.map told) [] → Q (.ref x) H2
section
variable {X : Cx} {C fP : Addr} {nm : Str} {e : Expr} {es : List Expr} {t : TA} {p pos : Pos}
theorem pe_mkS (M : Mk X.K C fP) (F : FnR X.prog X.w X.K X.mg X.base CX0 5 fP (spPInit X.K 2)) (cl : Cls X.K C) (nW : NoAttr X.K C "word") (nP : NoAttr X.K C "parts") (hr : Room 6 X.A) (hg : Gl X nm) (hm : X.mg nm = some (.ref C)) (ha : PA X (e :: es) t) (hdb : (nm == ("__debug__" : Str)) = false := by decide)
    (he : starEach (e :: es) X.env = (false, eval e X.env) :: starEach es X.env := by rfl) (hpl : (backTo pos (starEach es X.env)).any (·.1) = false := by rfl) :
    PE X (.Call (.Name nm p) (e :: es) [] pos) (tMkS X.K C t) := by
  refine ⟨fun pins s σ H Q I h => ?_⟩
  refine wpAny_Call_Name_kw (ld_glob I hg hm ?_ hdb)
  refine PySem.W.callWith_K (h₀ := X.base) I.ok.mod.kin M.kp (thn (ha.run pos pins s σ H _ I h) fun us s1 ⟨vs, H1, I1, r, word, rest, ds, ev, h1, h2, h3, k⟩ => ⟨I1.kIn, ?_⟩) he hpl
  subst ev
  refine StX.run_makeR M F hr pass0 I1 r fun x dx hx hd ne => ?_
  have e1 : Ext H1 (upd (upd H1 dx (.own x)) x (.ins C dx [])) := (Ext.upd hd).upd' (by rw [upd_ne (Ne.symm ne)]; exact hx)
  refine ⟨x, C, dx, word, rest, ds, rfl, upd_same, cl, nW, nP, Dp.extAll e1 _ _ h1, h2, h3, fun H' u xs b z1 z2 z3 => ⟨rfl, k x H' (fun a o ha => ?_) (pat_raw z1 z2 z3)⟩⟩
  exact b a o (ne_of_none ha hx) (e1 a o ha)
end
section
variable {P : Program} {w : World} {K : PySem.W.Frag} {mg : Str → Option Value} {base : Heap} {c : CS} {f : Addr} {cdv : Value} {A : Around} {outer : List Env} {s : Shared} {H0 : Hp} {E : XK}
theorem law13 (F : LawF P w K mg base c) (hr : Room 10 (LX P w K mg base f cdv A outer s H0 E).A) : ∃ t, PS (LX P w K mg base f cdv A outer s H0 E) (lp 12) t ∧ ∀ (D : Ends) (H : Hp) (p tl pl : Addr) (rs : List PR) (a0 a2 a3 a7 a10 a11 a12 a13 a14 a15 a16 a17 a18 : Option V) (v1 v2 v3 t1 t2 t3 : V) (d1 d2 d3 : PyData), LS K p v1 v2 v3 d1 d2 d3 tl t1 t2 t3 pl rs H →
    (∀ vb db H', Dr 2 db → Dp K (Hd p H') vb db → LS K p v1 v2 v3 d1 d2 d3 tl t1 t2 t3 pl rs H' → D.nx (sgm a0 p a2 a3 (some v1) (some v2) (some v3) a7 (some (.ref tl)) (some (.ref pl)) a10 a11 a12 a13 a14 a15 a16 (some vb) a18) H') →
    t D (sgm a0 p a2 a3 (some v1) (some v2) (some v3) a7 (some (.ref tl)) (some (.ref pl)) a10 a11 a12 a13 a14 a15 a16 a17 a18) H := by
  obtain ⟨fa, fda, GA, ba, ga, ka⟩ := F.any
  refine ⟨_, ps_set (i := 17) scLw.nd rfl (Or.inl rfl) (pe_call GA (hr.mono (by omega)) rfl ga ka ba .nil pass0 (pa_cons (pv 1) (pa_cons pe_int pa_nil))), ?_⟩
  intro D H p tl pl rs a0 a2 a3 a7 a10 a11 a12 a13 a14 a15 a16 a17 a18 v1 v2 v3 t1 t2 t3 d1 d2 d3 S k
  exact ⟨_, rfl, p, rfl, S.pen, fun v d H' hd hv b pn => k v d H' hd (Dp.ext (nw_hd S.pen.ne) _ _ hv) (S.but b pn)⟩
theorem law14 (F : LawF P w K mg base c) (hr : Room 10 (LX P w K mg base f cdv A outer s H0 E).A) (hgd : (LX P w K mg base f cdv A outer s H0 E).A.guards = some []) : ∃ t, PS (LX P w K mg base f cdv A outer s H0 E) (lp 13) t ∧ ∀ (D : Ends) (H : Hp) (p tl pl : Addr) (xs : Nat → Addr) (a0 a2 a3 a7 a10 a11 a12 a13 a14 a15 a16 a18 : Option V) (v1 v2 v3 t1 t2 t3 vb : V) (d1 d2 d3 db : PyData), Dr 2 d1 → Dr 2 d2 → Dr 2 d3 → Dr 2 db → LS K p v1 v2 v3 d1 d2 d3 tl t1 t2 t3 pl (rsOf c xs d1 d2 d3) H → Dp K (Hd p H) vb db →
    (∀ H', Ext H H' → D.nx (sgm a0 p a2 a3 (some v1) (some v2) (some v3) a7 (some (.ref tl)) (some (.ref pl)) a10 a11 a12 a13 a14 a15 a16 (some vb) a18) H') →
    t D (sgm a0 p a2 a3 (some v1) (some v2) (some v3) a7 (some (.ref tl)) (some (.ref pl)) a10 a11 a12 a13 a14 a15 a16 (some vb) a18) H := by
  have hu : (LX P w K mg base f cdv A outer s H0 E).A.units + 64 < cLine := by have := hr.un; omega
  obtain ⟨fdE, GE, bE⟩ := F.eqs
  obtain ⟨ft, fdt, GT, bt, gt, kt⟩ := F.told
  refine ⟨_, ps_if (PW.pt (pw_or (pt_cmpR op_ne (pe_cmpR (op_eqB (rcB_left GE bE) (hr.mono (by omega))) (pe_mk F.dies (hr.mono (by omega)) rfl (pa_cons (pv 17) (pa_cons (pv 5) pa_nil))) (pe_ix ix_list (pv 9) pe_int fun _ _ => rfl) (nomark _))
      (pe_cmpR op_eq (pe_callB (call_repr hgd hu) (by rfl) F.bl.rep (by decide +kernel) (pa_cons (pe_call GT (hr.mono (by omega)) rfl gt kt bt .nil pass0 (pa_cons (pv 17) pa_nil)) pa_nil)) (pe_callB (call_repr hgd hu) (by rfl) F.bl.rep (by decide +kernel) (pa_cons (pe_ix ix_list (pv 8) pe_int fun _ _ => rfl) pa_nil)) (nomark _)) (nomark _))
    (pw_or1 (pt_cmpR op_ne (pe_cmpR (op_eqB (rcB_left GE bE) (hr.mono (by omega))) (pe_mk F.torn (hr.mono (by omega)) rfl (pa_cons (pv 4) (pa_cons (pv 5) (pa_cons (pv 17) pa_nil)))) (pe_ix ix_list (pv 9) pe_int fun _ _ => rfl) (nomark _))
      (pe_cmpR op_eq (pe_callB (call_repr hgd hu) (by rfl) F.bl.rep (by decide +kernel) (pa_cons (pe_call GT (hr.mono (by omega)) rfl gt kt bt .nil pass0 (pa_cons (pv 17) pa_nil)) pa_nil)) (pe_callB (call_repr hgd hu) (by rfl) F.bl.rep (by decide +kernel) (pa_cons (pe_ix ix_list (pv 8) pe_int fun _ _ => rfl) pa_nil)) (nomark _)) (nomark _))))) (pss_one (ps_ret pe_bl)) pss_nil, ?_⟩
  intro D H p tl pl xs a0 a2 a3 a7 a10 a11 a12 a13 a14 a15 a16 a18 v1 v2 v3 t1 t2 t3 vb d1 d2 d3 db r1 r2 r3 rb S hb k
  have f1 := Dr.fits r1
  have f2 := Dr.fits r2
  have fb := Dr.fits rb
  have m0 : (⟨xs 0, c.dies, "Dies", "dies", ["run", "rows"], [d1, d2], true⟩ : PR) ∈ rsOf c xs d1 d2 d3 := by simp [rsOf]
  have m6 : (⟨xs 6, c.torn, "Torn", "torn", ["shape", "run", "others"], [d1, d2, d3], false⟩ : PR) ∈ rsOf c xs d1 d2 d3 := by simp [rsOf]
  have q0 : ∀ d ∈ [db, d2], Dr 2 d := by
    intro d hd
    simp only [List.mem_cons, List.not_mem_nil, or_false] at hd
    rcases hd with rfl | rfl <;> assumption
  have q6 : ∀ d ∈ [d1, d2, db], Dr 2 d := by
    intro d hd
    simp only [List.mem_cons, List.not_mem_nil, or_false] at hd
    rcases hd with rfl | rfl | rfl <;> assumption
  obtain ⟨b1, b2, b3, b4⟩ := (Tl.nice rb.told).repr (by decide) (by decide)
  obtain ⟨x1, x2, x3, x4⟩ := (Tl.nice r1.told).repr (by decide) (by decide)
  obtain ⟨y1, y2, y3, y4⟩ := (Tl.nice r3.told).repr (by decide) (by decide)
  refine ⟨_, rfl, _, rfl, [db, d2], .cons (Dp.ext hd_ext _ _ hb) (.cons (Dp.ext hd_ext _ _ S.r2) .nil), rfl, fits2 fb f2, fun x H1 e1 w1 => ?_⟩
  have S1 := S.ext e1
  obtain ⟨kn, _, km⟩ := F.kinOf m0
  have D1 := dl_of kn.pc kn.pc w1 (S1.ps _ m0) (kn.nf _ km) (good_of (words_ok _ (by simp)) (told_good q0) (by simp)) (rs_good r1 r2 r3 m0)
  rw [decide_eq_true rfl, Bool.true_and] at D1
  refine ⟨_, rfl, pl, _, 0, _, rfl, rfl, SqL.of S1.pl, rfl, _, D1, fun H2 e2 => ?_⟩
  have S2 := S1.ext e2
  refine ⟨_, rfl, vb, db, rfl, Dp.ext (hd_trans (e1.trans e2)) _ _ hb, fb, fun v' H3 e3 hv => ?_⟩
  have S3 := S2.ext e3
  refine ⟨_, _, rfl, hv, b1, b2, b3, b4, _, rfl, tl, _, 0, _, rfl, rfl, SqL.of S3.tl, rfl, _, _, rfl, Dp.ext hd_ext _ _ S3.k1, x1, x2, x3, x4, rfl, rfl, _, rfl, ?_⟩
  have z1 : alike (.tuple [.str "dies", .tuple (List.map told [db, d2])]) (.tuple [.str "dies", .tuple (List.map told [d1, d2])]) = decide (V.str (told db).shown = V.str (told d1).shown) := alike_bent rb.told r1.told r2.told.fl
  rw [z1, decide_eq_true rfl]
  refine iteF ?_
  have E3 := (e1.trans e2).trans e3
  refine ⟨_, rfl, _, rfl, _, rfl, [d1, d2, db], .cons (Dp.ext hd_ext _ _ S3.r1) (.cons (Dp.ext hd_ext _ _ S3.r2) (.cons (Dp.ext (hd_trans E3) _ _ hb) .nil)), rfl, fits3 f1 f2 fb, fun x' H4 e4 w4 => ?_⟩
  have S4 := S3.ext e4
  obtain ⟨kn6, _, km6⟩ := F.kinOf m6
  have D4 := dl_of kn6.pc kn6.pc w4 (S4.ps _ m6) (kn6.nf _ km6) (good_of (words_ok _ (by simp)) (told_good q6) (by simp)) (rs_good r1 r2 r3 m6)
  rw [decide_eq_true rfl, Bool.true_and] at D4
  refine ⟨_, rfl, pl, _, 6, _, rfl, rfl, SqL.of S4.pl, rfl, _, D4, fun H5 e5 => ?_⟩
  have S5 := S4.ext e5
  refine ⟨_, rfl, vb, db, rfl, Dp.ext (hd_trans (E3.trans (e4.trans e5))) _ _ hb, fb, fun v'' H6 e6 hv => ?_⟩
  have S6 := S5.ext e6
  refine ⟨_, _, rfl, hv, b1, b2, b3, b4, _, rfl, tl, _, 2, _, rfl, rfl, SqL.of S6.tl, rfl, _, _, rfl, Dp.ext hd_ext _ _ S6.k3, y1, y2, y3, y4, rfl, rfl, _, rfl, ?_⟩
  have z2 : alike (.tuple [.str "torn", .tuple (List.map told [d1, d2, db])]) (.tuple [.str "torn", .tuple (List.map told [d1, d2, d3])]) = decide (V.str (told db).shown = V.str (told d3).shown) := alike_bent3 rb.told r3.told r2.told.fl r1.told.fl
  rw [z2, decide_eq_true rfl]
  exact iteF (k H6 (E3.trans ((e4.trans e5).trans e6)))
end
end P45

/-! k45: the law's loop: the last test, the loop as a whole. -/
namespace P45
open PySem L2 M45
theorem kd_told {K : PySem.W.Frag} {H : Hp} {v : V} {d : PyData} (h : Dr 2 d) (k : Dp K H v (told d)) : told (told d) = told d := Fl.told h.told.fl
/-- x == y, y of a class below -/
def DR (K : PySem.W.Frag) (CP fEq : Addr) : EqB := fun x y H r => ∃ a C dx fs b C' dy gs, x = .ref a ∧ H a = some (.ins C dx fs) ∧ y = .ref b ∧ H b = some (.ins C' dy gs) ∧ C' ≠ C ∧ PySem.W.subIn K (.ref C') (.ref C) = some true ∧ OwnE K C' fEq ∧ DPap K CP fEq 4 y x H r
theorem dr_of {K : PySem.W.Frag} {CP fEq a b C C' : Addr} {n n' word word' : Str} {ds ds' : List PyData} {as as' : List Str} {H : Hp} (c : PCls K C n CP fEq) (c' : PCls K C' n' CP fEq) (pa : PAt K H a C word ds as) (pb : PAt K H b C' word' ds' as') (ne : C' ≠ C) (sub : PySem.W.subIn K (.ref C') (.ref C) = some true)
    (g : Good 4 (.tuple [.str word, .tuple ds])) (g' : Good 4 (.tuple [.str word', .tuple ds'])) (hn : n' ≠ n) : DR K CP fEq (.ref a) (.ref b) H false := by
  obtain ⟨dx, fs, _, _, h1, _⟩ := pa.ex
  obtain ⟨dy, gs, _, _, i1, _⟩ := pb.ex
  refine ⟨a, C, dx, fs, b, C', dy, gs, rfl, h1, rfl, i1, ne, sub, c'.own, .inl ⟨b, a, C', C, n', n, word', word, ds', ds, as', as, rfl, rfl, c', c, pb, pa, g', g, ?_⟩⟩
  rw [decide_eq_false hn, Bool.false_and]
section
variable {P : Program} {w : World} {K : PySem.W.Frag} {mg : Str → Option Value} {base : Heap} {c : CS} {f : Addr} {cdv : Value} {A : Around} {outer : List Env} {s : Shared} {H0 : Hp} {E : XK}
theorem law15 (F : LawF P w K mg base c) (hr : Room 10 (LX P w K mg base f cdv A outer s H0 E).A) : ∃ t, PS (LX P w K mg base f cdv A outer s H0 E) (lp 14) t ∧ ∀ (D : Ends) (H : Hp) (p tl pl : Addr) (xs : Nat → Addr) (a0 a2 a3 a7 a10 a11 a12 a13 a14 a15 a16 a17 a18 : Option V) (v1 v2 v3 t1 t2 t3 : V) (d1 d2 d3 : PyData), Dr 2 d1 → Dr 2 d2 → Dr 2 d3 → LS K p v1 v2 v3 d1 d2 d3 tl t1 t2 t3 pl (rsOf c xs d1 d2 d3) H →
    (∀ H', Ext H H' → D.nx (sgm a0 p a2 a3 (some v1) (some v2) (some v3) a7 (some (.ref tl)) (some (.ref pl)) a10 a11 a12 a13 a14 a15 a16 a17 a18) H') →
    t D (sgm a0 p a2 a3 (some v1) (some v2) (some v3) a7 (some (.ref tl)) (some (.ref pl)) a10 a11 a12 a13 a14 a15 a16 a17 a18) H := by
  obtain ⟨fdE, GE, bE⟩ := F.eqs
  obtain ⟨fP, MP, MD, GP, gP, gD⟩ := F.star
  refine ⟨_, ps_if (PW.pt (pw_or (pt_cmpR (op_eqB (rcB_left GE bE) (hr.mono (by omega))) (pe_ix ix_list (pv 9) pe_int fun _ _ => rfl) (pv 8) (nomark _))
    (pw_or (pt_cmpR (op_eqB (rcB_right GE bE) (hr.mono (by omega))) (pe_mkS MD GP F.pcD.cl F.pcD.nW F.pcD.nP (hr.mono (by omega)) rfl gD (pa_cons pe_str (pa_cons (pv 4) (pa_cons (pv 5) pa_nil)))) (pe_ix ix_list (pv 9) pe_int fun _ _ => rfl) (nomark _))
    (pw_or (pt_cmpR (op_eqB (rcB_right GE bE) (hr.mono (by omega))) (pe_mkS MP GP F.pcP.cl F.pcP.nW F.pcP.nP (hr.mono (by omega)) rfl gP (pa_cons pe_str (pa_cons (pv 4) (pa_cons (pv 5) pa_nil)))) (pe_ix ix_list (pv 9) pe_int fun _ _ => rfl) (nomark _))
    (pw_or1 (pt_not (pt_cmpR (op_eqB (rcB_left GE bE) (hr.mono (by omega))) (pe_ix ix_list (pv 9) pe_int fun _ _ => rfl) (pe_mk F.lives (hr.mono (by omega)) rfl (pa_cons (pe_ix ix_list (pv 8) pe_int fun _ _ => rfl) (pa_cons (pe_ix ix_list (pv 8) pe_int fun _ _ => rfl) pa_nil))) (nomark _)))))))) (pss_one (ps_ret pe_bl)) pss_nil, ?_⟩
  intro D H p tl pl xs a0 a2 a3 a7 a10 a11 a12 a13 a14 a15 a16 a17 a18 v1 v2 v3 t1 t2 t3 d1 d2 d3 r1 r2 r3 S k
  have m0 : (⟨xs 0, c.dies, "Dies", "dies", ["run", "rows"], [d1, d2], true⟩ : PR) ∈ rsOf c xs d1 d2 d3 := by simp [rsOf]
  have m1 : (⟨xs 1, c.lives, "Lives", "lives", ["run", "rows"], [d1, d2], false⟩ : PR) ∈ rsOf c xs d1 d2 d3 := by simp [rsOf]
  have m2 : (⟨xs 2, c.both, "Both", "both", ["run", "other"], [d1, d2], false⟩ : PR) ∈ rsOf c xs d1 d2 d3 := by simp [rsOf]
  have m4 : (⟨xs 4, c.deaths, "Deaths", "deaths", ["spots", "rows"], [d1, d2], true⟩ : PR) ∈ rsOf c xs d1 d2 d3 := by simp [rsOf]
  obtain ⟨kn0, _, km0⟩ := F.kinOf m0
  obtain ⟨kn1, _, km1⟩ := F.kinOf m1
  obtain ⟨kn2, _, km2⟩ := F.kinOf m2
  obtain ⟨kn4, _, km4⟩ := F.kinOf m4
  obtain ⟨sb1, sb2, sb3, sb4⟩ := F.subs
  have f1 := Dr.fits r1
  have f2 := Dr.fits r2
  have g12 : ∀ w ∈ (["dies", "lives", "both", "unmet", "deaths", "freed", "torn", "needed", "paper", "denial"] : List Str), Good 4 (.tuple [.str w, .tuple ([d1, d2].map told)]) := fun w hw => good_of (words_ok w hw) (told_good fun d hd => by
    simp only [List.mem_cons, List.not_mem_nil, or_false] at hd
    rcases hd with rfl | rfl <;> assumption) (by simp)
  -- papers[0] == told
  obtain ⟨dx, fs, _, _, z1, _⟩ := (S.ps _ m0).ex
  refine ⟨_, rfl, pl, _, 0, _, rfl, rfl, SqL.of S.pl, rfl, _, rfl, false, ⟨xs 0, c.dies, dx, fs, rfl, z1, kn0.pc.own, .lst S.tl kn0.pc.nfL, .inr ⟨xs 0, tl, c.dies, "Dies", _, _, _, _, rfl, rfl, kn0.pc, S.ps _ m0, S.tl, F.lst, rfl⟩⟩, fun H1 e1 => ⟨_, rfl, iteF ?_⟩⟩
  have S1 := S.ext e1
  -- Denial
  refine ⟨_, rfl, _, rfl, "both", _, [d1, d2], rfl, .cons (Dp.ext hd_ext _ _ S1.r1) (.cons (Dp.ext hd_ext _ _ S1.r2) .nil), (by show 2 ≤ 1000; decide), fits2 f1 f2, fun x H2 e2 w2 => ?_⟩
  have S2 := S1.ext e2
  refine ⟨_, rfl, pl, _, 2, _, rfl, rfl, SqL.of S2.pl, rfl, false, dr_of F.pcD kn2.pc w2 (S2.ps _ m2) sb2 sb1 (g12 _ (by simp)) (rs_good r1 r2 r3 m2) (show ("Both" : Str) ≠ "Denial" by decide +kernel), fun H3 e3 => ⟨_, rfl, iteF ?_⟩⟩
  have S3 := S2.ext e3
  -- Paper
  refine ⟨_, rfl, _, rfl, "deaths", _, [d1, d2], rfl, .cons (Dp.ext hd_ext _ _ S3.r1) (.cons (Dp.ext hd_ext _ _ S3.r2) .nil), (by show 2 ≤ 1000; decide), fits2 f1 f2, fun x' H4 e4 w4 => ?_⟩
  have S4 := S3.ext e4
  refine ⟨_, rfl, pl, _, 4, _, rfl, rfl, SqL.of S4.pl, rfl, false, dr_of F.pcP kn4.pc w4 (S4.ps _ m4) sb4 sb3 (g12 _ (by simp)) (rs_good r1 r2 r3 m4) (show ("Deaths" : Str) ≠ "Paper" by decide +kernel), fun H5 e5 => ⟨_, rfl, iteF ?_⟩⟩
  have S5 := S4.ext e5
  -- Lives
  refine ⟨_, rfl, pl, _, 1, _, rfl, rfl, SqL.of S5.pl, rfl, _, rfl, tl, _, 0, _, rfl, rfl, SqL.of S5.tl, rfl, _, rfl, tl, _, 1, _, rfl, rfl, SqL.of S5.tl, rfl, [told d1, told d2], .cons (Dp.ext hd_ext _ _ S5.k1) (.cons (Dp.ext hd_ext _ _ S5.k2) .nil), rfl, fits2 (Tl.nice r1.told).fits (Tl.nice r2.told).fits, fun y H6 e6 w6 => ?_⟩
  have S6 := S5.ext e6
  have w6 : PAt K H6 y c.lives "lives" ([d1, d2].map told) ["run", "rows"] := by
    have e : [told d1, told d2].map told = [d1, d2].map told := by
      show [told (told d1), told (told d2)] = [told d1, told d2]
      rw [Fl.told r1.told.fl, Fl.told r2.told.fl]
    rw [e] at w6
    exact w6
  have D6 := dl_of kn1.pc kn1.pc (S6.ps _ m1) w6 (kn1.nf _ km1) (rs_good r1 r2 r3 m1) (g12 _ (by simp))
  rw [decide_eq_true rfl, alike_refl (g12 "lives" (by simp)).fl] at D6
  exact ⟨true, D6, fun H7 e7 => ⟨_, rfl, iteF (k H7 (((((e1.trans e2).trans e3).trans e4).trans (e5.trans e6)).trans e7))⟩⟩
end
end P45

/-! k45: the loop as a whole; the last statements. -/
namespace P45
open PySem L2 M45
def lw (i : Nat) : Stmt := (defBody sLaw).getD i (.Pass ⟨0, 0, 0, 0⟩)
section
variable {P : Program} {w : World} {K : PySem.W.Frag} {mg : Str → Option Value} {base : Heap} {c : CS} {f : Addr} {cdv : Value} {A : Around} {outer : List Env} {s : Shared} {H0 : Hp} {E : XK}
theorem lawLoop (F : LawF P w K mg base c) (hr : Room 10 (LX P w K mg base f cdv A outer s H0 E).A) (hgd : (LX P w K mg base f cdv A outer s H0 E).A.guards = some []) : ∃ t, PS (LX P w K mg base f cdv A outer s H0 E) (lw 1) t ∧ ∀ (D : Ends) (H : Hp) (p : Addr) (a0 a2 a3 a4 a5 a6 a7 a8 a9 a10 a11 a12 a13 a14 a15 a16 a17 a18 : Option V), Pen p H →
    (∀ b2 b3 b4 b5 b6 b7 b8 b9 b10 b11 b12 b13 b14 b15 b16 b17 b18 H', Pen p H' → D.nx (sgm a0 p b2 b3 b4 b5 b6 b7 b8 b9 b10 b11 b12 b13 b14 b15 b16 b17 b18) H') →
    t D (sgm a0 p a2 a3 a4 a5 a6 a7 a8 a9 a10 a11 a12 a13 a14 a15 a16 a17 a18) H := by
  obtain ⟨u1, p1, w1⟩ := law1 (f := f) (cdv := cdv) (A := A) (outer := outer) (s := s) (H0 := H0) (E := E) F hr
  obtain ⟨u2, p2, w2⟩ := law2 (f := f) (cdv := cdv) (A := A) (outer := outer) (s := s) (H0 := H0) (E := E) F hr
  obtain ⟨u3, p3, w3⟩ := law3 (f := f) (cdv := cdv) (A := A) (outer := outer) (s := s) (H0 := H0) (E := E) F hr
  obtain ⟨u4, p4, w4⟩ := law4 (f := f) (cdv := cdv) (A := A) (outer := outer) (s := s) (H0 := H0) (E := E) F hr
  obtain ⟨u5, p5, w5⟩ := law5 (f := f) (cdv := cdv) (A := A) (outer := outer) (s := s) (H0 := H0) (E := E) F hr
  obtain ⟨u6, p6, w6⟩ := law6 (f := f) (cdv := cdv) (A := A) (outer := outer) (s := s) (H0 := H0) (E := E) F hr
  obtain ⟨u7, p7, w7⟩ := law7 (f := f) (cdv := cdv) (A := A) (outer := outer) (s := s) (H0 := H0) (E := E) F hr
  obtain ⟨u8, p8, w8⟩ := law8 (P := P) (w := w) (K := K) (mg := mg) (base := base) (f := f) (cdv := cdv) (A := A) (outer := outer) (s := s) (H0 := H0) (E := E)
  obtain ⟨u9, p9, w9⟩ := law9 (f := f) (cdv := cdv) (A := A) (outer := outer) (s := s) (H0 := H0) (E := E) F hr hgd
  obtain ⟨u10, p10, w10⟩ := law10 (f := f) (cdv := cdv) (A := A) (outer := outer) (s := s) (H0 := H0) (E := E) F
  obtain ⟨u11, p11, w11⟩ := law11 (f := f) (cdv := cdv) (A := A) (outer := outer) (s := s) (H0 := H0) (E := E) F hr hgd
  obtain ⟨u12, p12, w12⟩ := law12 (f := f) (cdv := cdv) (A := A) (outer := outer) (s := s) (H0 := H0) (E := E) F hr
  obtain ⟨u13, p13, w13⟩ := law13 (f := f) (cdv := cdv) (A := A) (outer := outer) (s := s) (H0 := H0) (E := E) F hr
  obtain ⟨u14, p14, w14⟩ := law14 (f := f) (cdv := cdv) (A := A) (outer := outer) (s := s) (H0 := H0) (E := E) F hr hgd
  obtain ⟨u15, p15, w15⟩ := law15 (f := f) (cdv := cdv) (A := A) (outer := outer) (s := s) (H0 := H0) (E := E) F hr
  refine ⟨_, ps_for PassesOwn.never rfl (pi_range1 rfl F.bl.rng (pa_cons pe_int pa_nil)) (pg_name (i := 2) scLw.nd rfl (Or.inl rfl))
    (pss_cons p1 (pss_cons p2 (pss_cons p3 (pss_cons p4 (pss_cons p5 (pss_cons p6 (pss_cons p7 (pss_cons p8 (pss_cons p9 (pss_cons p10 (pss_cons p11 (pss_cons p12 (pss_cons p13 (pss_cons p14 (pss_one p15))))))))))))))), ?_⟩
  intro D H p a0 a2 a3 a4 a5 a6 a7 a8 a9 a10 a11 a12 a13 a14 a15 a16 a17 a18 pn k
  refine ⟨8, rfl, by decide, by decide, for_range (fun i σ H' => Pen p H' ∧ ∃ b2 b3 b4 b5 b6 b7 b8 b9 b10 b11 b12 b13 b14 b15 b16 b17 b18, σ = sgm a0 p b2 b3 b4 b5 b6 b7 b8 b9 b10 b11 b12 b13 b14 b15 b16 b17 b18)
    ⟨pn, _, _, _, _, _, _, _, _, _, _, _, _, _, _, _, _, _, rfl⟩ ?_ ?_⟩
  · rintro i σ H1 hi ⟨pn1, b2, b3, b4, b5, b6, b7, b8, b9, b10, b11, b12, b13, b14, b15, b16, b17, b18, rfl⟩
    refine w1 _ H1 p a0 _ b3 b4 b5 b6 b7 b8 b9 b10 b11 b12 b13 b14 b15 b16 b17 b18 pn1 fun v1 v2 v3 d1 d2 d3 H2 r1 r2 r3 pn2 h1 h2 h3 => ?_
    refine w2 _ H2 p a0 _ _ _ _ _ _ _ _ _ _ _ _ _ _ v1 v2 v3 d1 d2 d3 r1 r2 r3 pn2 h1 h2 h3 fun tl t1 t2 t3 H3 e3 tn ht k1 k2 k3 => ?_
    have b3' := hd_step (ButX.of (x := p) e3)
    refine w3 _ H3 p tl a0 _ _ _ _ _ _ _ _ _ _ _ _ _ v1 v2 v3 t1 t2 t3 d1 d2 d3 r1 r2 r3 (pn2.ext e3) (Dp.ext b3' _ _ h1) (Dp.ext b3' _ _ h2) (Dp.ext b3' _ _ h3) tn ht k1 k2 k3 fun pl xs H4 S4 => ?_
    refine w4 _ H4 p tl pl _ a0 _ _ _ _ _ _ _ _ _ _ _ _ v1 v2 v3 t1 t2 t3 d1 d2 d3 r1 r2 r3 S4 fun nl ys H5 e5 S5 hn5 hw5 => ?_
    refine w5 _ H5 p tl pl nl _ ys a0 _ _ _ _ _ _ _ _ _ _ _ v1 v2 v3 t1 t2 t3 d1 d2 d3 r1 r2 r3 S5 hn5 hw5 fun nl2 zs H6 e6 S6 hn6 hw6 => ?_
    refine w6 _ H6 p tl pl nl2 xs zs a0 _ _ _ _ _ _ _ _ _ _ _ v1 v2 v3 t1 t2 t3 d1 d2 d3 r1 r2 r3 S6 hn6 hw6 fun H7 e7 => ?_
    have S7 := S6.ext e7
    refine w7 _ H7 p tl pl xs a0 _ _ _ _ _ _ _ _ _ _ _ _ v1 v2 v3 t1 t2 t3 d1 d2 d3 S7 fun H8 e8 => ?_
    have S8 := S7.ext e8
    refine w8 _ H8 p a0 _ _ _ _ _ _ _ _ _ _ _ _ _ _ _ _ _ fun sl H9 e9 hs9 => ?_
    have S9 := S8.ext e9
    refine w9 _ H9 p tl pl sl xs a0 _ _ _ _ _ _ _ _ _ _ _ v1 v2 v3 t1 t2 t3 d1 d2 d3 r1 r2 r3 S9 hs9 fun H10 e10 => ?_
    have S10 := S9.ext e10
    refine w10 _ H10 p tl pl xs a0 _ _ _ _ _ _ _ _ _ _ _ _ v1 v2 v3 t1 t2 t3 d1 d2 d3 S10 fun al H11 e11 ha11 => ?_
    have S11 := S10.ext e11
    refine w11 _ H11 p tl pl al _ a0 _ _ _ _ _ _ _ _ _ _ _ v1 v2 v3 t1 t2 t3 d1 d2 d3 r1 r2 r3 S11 ha11 fun H12 e12 => ?_
    have S12 := S11.ext e12
    refine w12 _ H12 p tl pl xs a0 _ _ _ _ _ _ _ _ _ _ _ _ v1 v2 v3 t1 t2 t3 d1 d2 d3 r1 r2 r3 S12 fun c11 c15 H13 e13 => ?_
    have S13 := S12.ext e13
    refine w13 _ H13 p tl pl _ a0 _ _ _ _ _ _ _ _ _ _ _ _ v1 v2 v3 t1 t2 t3 d1 d2 d3 S13 fun vb db H14 rb hb14 S14 => ?_
    refine w14 _ H14 p tl pl xs a0 _ _ _ _ _ _ _ _ _ _ _ v1 v2 v3 t1 t2 t3 vb d1 d2 d3 db r1 r2 r3 rb S14 hb14 fun H15 e15 => ?_
    have S15 := S14.ext e15
    refine w15 _ H15 p tl pl xs a0 _ _ _ _ _ _ _ _ _ _ _ _ v1 v2 v3 t1 t2 t3 d1 d2 d3 r1 r2 r3 S15 fun H16 e16 => ?_
    exact ⟨S15.pen.ext e16, _, _, _, _, _, _, _, _, _, _, _, _, _, _, _, _, _, rfl⟩
  · rintro σ H1 ⟨pn1, b2, b3, b4, b5, b6, b7, b8, b9, b10, b11, b12, b13, b14, b15, b16, b17, b18, rfl⟩
    exact k _ _ _ _ _ _ _ _ _ _ _ _ _ _ _ _ _ H1 pn1
end
end P45

/-! k45: the last statements of the law. -/
namespace P45
open PySem L2 M45
/-- fixed data, good for a paper -/
theorem good_fix {word : Str} {ds : List PyData} (h : Good 4 (.tuple [.str word, .tuple ds])) : Good 4 (.tuple [.str word, .tuple ds]) := h
theorem al1 : alike (.tuple [.str "dies", .tuple [.int 1, .tuple []]]) (.tuple [.str "dies", .tuple [.bool true, .tuple []]]) = false := by decide +kernel
theorem al2 : alike (.tuple [.str "freed", .tuple [.tuple [.tuple [.int 0]], .int 0]]) (.tuple [.str "freed", .tuple [.tuple [.tuple [.int 0]], .int 0]]) = true := by decide +kernel
theorem al3 : alike (.tuple [.str "freed", .tuple [.tuple [.tuple [.bool false]], .int 0]]) (.tuple [.str "freed", .tuple [.tuple [.tuple [.int 0]], .int 0]]) = false := by decide +kernel
theorem to0 : told (.list [.list [.int 0]]) = .tuple [.tuple [.int 0]] := by simp [told]
theorem to1 (d : PyData) (h : Fl d) : told (.tuple [.tuple [d]]) = .tuple [.tuple [d]] := Fl.told (.tuple fun x hx => by
  obtain rfl : x = .tuple [d] := by simpa using hx
  exact .tuple fun y hy => by
    obtain rfl : y = d := by simpa using hy
    exact h)
theorem good2 {word : Str} {a b : PyData} (hw : PyData.strOk word = true) (ha : Fits 2 a ∧ Fl a ∧ a.canLay0 = true) (hb : Fits 2 b ∧ Fl b ∧ b.canLay0 = true) : Good 4 (.tuple [.str word, .tuple [a, b]]) :=
  good_of hw (fun d hd => by
    simp only [List.mem_cons, List.not_mem_nil, or_false] at hd
    rcases hd with rfl | rfl <;> assumption) (by show 2 ≤ 1000; decide)
theorem gi (i : Int) : Fits 2 (.int i) ∧ Fl (.int i) ∧ (PyData.int i).canLay0 = true := ⟨.int i, .int i, by simp only [PyData.canLay0]⟩
theorem gb (b : Bool) : Fits 2 (.bool b) ∧ Fl (.bool b) ∧ (PyData.bool b).canLay0 = true := ⟨.bl b, .bool b, by simp only [PyData.canLay0]⟩
theorem gu : Fits 2 (.tuple []) ∧ Fl (.tuple []) ∧ (PyData.tuple []).canLay0 = true := ⟨.tuple (by decide) (fun x h => nomatch h), .tuple (fun x h => nomatch h), by simp only [PyData.canLay0, PyData.canLayAll0]⟩
theorem gt {d : PyData} (hd : Fits 0 d) (hf : Fl d) (hc : d.canLay0 = true) : Fits 2 (.tuple [.tuple [d]]) ∧ Fl (.tuple [.tuple [d]]) ∧ (PyData.tuple [.tuple [d]]).canLay0 = true := by
  refine ⟨.tuple (by show 1 ≤ 1000; decide) fun x hx => ?_, .tuple fun x hx => ?_, by simp only [PyData.canLay0, PyData.canLayAll0, hc, Bool.and_self]⟩
  · obtain rfl : x = .tuple [d] := by simpa using hx
    exact .tuple (by show 1 ≤ 1000; decide) fun y hy => by
      obtain rfl : y = d := by simpa using hy
      exact hd
  · obtain rfl : x = .tuple [d] := by simpa using hx
    exact .tuple fun y hy => by
      obtain rfl : y = d := by simpa using hy
      exact hf
section
variable {P : Program} {w : World} {K : PySem.W.Frag} {mg : Str → Option Value} {base : Heap} {c : CS} {f : Addr} {cdv : Value} {A : Around} {outer : List Env} {s : Shared} {H0 : Hp} {E : XK}
theorem lawPen (F : LawF P w K mg base c) (hr : Room 10 (LX P w K mg base f cdv A outer s H0 E).A) : ∃ t, PS (LX P w K mg base f cdv A outer s H0 E) (lw 0) t ∧ ∀ (D : Ends) (H : Hp) (a : Addr) (ns : List Int), SqL K H a (ns.map V.int) →
    (∀ p H', Pen p H' → D.nx (sgm (some (.ref a)) p none none none none none none none none none none none none none none none none none) H') → t D (start lawN [.ref a]) H := by
  obtain ⟨fp, fdp, GP, bp, gp, kp⟩ := F.pen
  refine ⟨_, ps_set (i := 1) scLw.nd rfl (Or.inr rfl) (pe_call GP (hr.mono (by omega)) rfl gp kp bp .nil pass0 (pa_cons (pv 0) pa_nil)), ?_⟩
  intro D H a ns hs k
  exact ⟨_, rfl, a, ns, rfl, hs, fun n p h0 h1 hp => k p _ ⟨n, upd_same, h0, h1⟩⟩
theorem lawLast (F : LawF P w K mg base c) (hr : Room 10 (LX P w K mg base f cdv A outer s H0 E).A) : ∃ t, PS (LX P w K mg base f cdv A outer s H0 E) (lw 2) t ∧ ∀ (D : Ends) (H : Hp) (σ : L2.St), (∀ H', Ext H H' → D.nx σ H') → t D σ H := by
  obtain ⟨fdE, GE, bE⟩ := F.eqs
  refine ⟨_, ps_if (PW.pt (pw_or (pt_cmpR (op_eqB (rcB_left GE bE) (hr.mono (by omega))) (pe_mk F.dies (hr.mono (by omega)) rfl (pa_cons pe_int (pa_cons (pe_tup pa_nil) pa_nil))) (pe_mk F.dies (hr.mono (by omega)) rfl (pa_cons pe_bl (pa_cons (pe_tup pa_nil) pa_nil))) (nomark _))
    (pw_or (pt_cmpR (op_neB (rcB_ne GE bE) (hr.mono (by omega))) (pe_mk F.freed (hr.mono (by omega)) rfl (pa_cons (pe_lst (pa_cons (pe_lst (pa_cons pe_int pa_nil)) pa_nil)) (pa_cons pe_int pa_nil))) (pe_mk F.freed (hr.mono (by omega)) rfl (pa_cons (pe_tup (pa_cons (pe_tup (pa_cons pe_int pa_nil)) pa_nil)) (pa_cons pe_int pa_nil))) (nomark _))
    (pw_or1 (pt_cmpR (op_eqB (rcB_left GE bE) (hr.mono (by omega))) (pe_mk F.freed (hr.mono (by omega)) rfl (pa_cons (pe_tup (pa_cons (pe_tup (pa_cons pe_bl pa_nil)) pa_nil)) (pa_cons pe_int pa_nil))) (pe_mk F.freed (hr.mono (by omega)) rfl (pa_cons (pe_tup (pa_cons (pe_tup (pa_cons pe_int pa_nil)) pa_nil)) (pa_cons pe_int pa_nil))) (nomark _)))))) (pss_one (ps_ret pe_bl)) pss_nil, ?_⟩
  intro D H σ k
  have kd := (F.kinOf (xs := fun _ => 0) (d1 := .none) (d2 := .none) (d3 := .none) (r := ⟨0, c.dies, "Dies", "dies", ["run", "rows"], [.none, .none], true⟩) (by simp [rsOf])).1
  have kdm := (F.kinOf (xs := fun _ => 0) (d1 := .none) (d2 := .none) (d3 := .none) (r := ⟨0, c.dies, "Dies", "dies", ["run", "rows"], [.none, .none], true⟩) (by simp [rsOf])).2.2
  have kf := (F.kinOf (xs := fun _ => 0) (d1 := .none) (d2 := .none) (d3 := .none) (r := ⟨0, c.freed, "Freed", "freed", ["frees", "rows"], [.none, .none], true⟩) (by simp [rsOf])).1
  have kfm := (F.kinOf (xs := fun _ => 0) (d1 := .none) (d2 := .none) (d3 := .none) (r := ⟨0, c.freed, "Freed", "freed", ["frees", "rows"], [.none, .none], true⟩) (by simp [rsOf])).2.2
  have wd := words_ok "dies" (by simp)
  have wf := words_ok "freed" (by simp)
  have gt0 := gt (d := .int 0) (.int 0) (.int 0) (by simp only [PyData.canLay0])
  have gtf := gt (d := .bool false) (.bl false) (.bool false) (by simp only [PyData.canLay0])
  have gl0 : Fits 2 (.list [.list [.int 0]]) := .list (by show 1 ≤ 1000; decide) fun x hx => by
    obtain rfl : x = .list [.int 0] := by simpa using hx
    exact .list (by show 1 ≤ 1000; decide) fun y hy => by
      obtain rfl : y = .int 0 := by simpa using hy
      exact .int 0
  -- Dies(1, ()) == Dies(True, ())
  refine ⟨(by show 0 ≤ sizeLine; decide), fun p1 h1 => ?_⟩
  have e1 := Ext.upd (o := .tup []) h1
  refine ⟨[.int 1, .tuple []], .cons (.int 1) (.cons (.tup (SqT.of upd_same) .nil) .nil), rfl, fits2 (.int 1) gu.1, fun x1 H1 g1 w1 => ?_⟩
  refine ⟨(by show 0 ≤ sizeLine; decide), fun p2 h2 => ?_⟩
  have e2 := Ext.upd (o := .tup []) h2
  refine ⟨[.bool true, .tuple []], .cons (.bl true) (.cons (.tup (SqT.of upd_same) .nil) .nil), rfl, fits2 (.bl true) gu.1, fun x2 H2 g2 w2 => ?_⟩
  have t1 : List.map told [.int 1, .tuple []] = [.int 1, .tuple []] := by simp [told]
  have t2 : List.map told [.bool true, .tuple []] = [.bool true, .tuple []] := by simp [told]
  rw [t1] at w1
  rw [t2] at w2
  have D1 := dl_of kd.pc kd.pc (w1.ext (e2.trans g2)) w2 (kd.nf _ kdm) (good2 wd (gi 1) gu) (good2 wd (gb true) gu)
  rw [al1, Bool.and_false] at D1
  refine ⟨false, D1, fun H3 g3 => ⟨_, rfl, iteF ?_⟩⟩
  -- Freed([[0]], 0) != Freed(((0,),), 0)
  refine ⟨(by show 1 ≤ sizeLine; decide), fun p3 h3 => ⟨(by show 1 ≤ sizeLine; decide), fun p4 h4 => ?_⟩⟩
  have e3 := (Ext.upd (o := .lst [.int 0]) h3).upd' (o := .lst [.ref p3]) h4
  have n34 : p3 ≠ p4 := ne_of_none upd_same h4
  refine ⟨[.list [.list [.int 0]], .int 0], .cons (.lst (SqL.of upd_same) (.cons (.lst (SqL.of (by rw [upd_ne n34]; exact upd_same)) (.cons (.int 0) .nil)) .nil)) (.cons (.int 0) .nil), rfl, fits2 gl0 (.int 0), fun x3 H4 g4 w3 => ?_⟩
  refine ⟨(by show 1 ≤ sizeLine; decide), fun p5 h5 => ⟨(by show 1 ≤ sizeLine; decide), fun p6 h6 => ?_⟩⟩
  have e5 := (Ext.upd (o := .tup [.int 0]) h5).upd' (o := .tup [.ref p5]) h6
  have n56 : p5 ≠ p6 := ne_of_none upd_same h6
  refine ⟨[.tuple [.tuple [.int 0]], .int 0], .cons (.tup (SqT.of upd_same) (.cons (.tup (SqT.of (by rw [upd_ne n56]; exact upd_same)) (.cons (.int 0) .nil)) .nil)) (.cons (.int 0) .nil), rfl, fits2 gt0.1 (.int 0), fun x4 H5 g5 w4 => ?_⟩
  have t3 : List.map told [.list [.list [.int 0]], .int 0] = [.tuple [.tuple [.int 0]], .int 0] := by simp [told]
  have t4 : List.map told [.tuple [.tuple [.int 0]], .int 0] = [.tuple [.tuple [.int 0]], .int 0] := by simp [told]
  rw [t3] at w3
  rw [t4] at w4
  have D2 := dl_of kf.pc kf.pc (w3.ext (e5.trans g5)) w4 (kf.nf _ kfm) (good2 wf gt0 (gi 0)) (good2 wf gt0 (gi 0))
  rw [al2, decide_eq_true rfl] at D2
  refine ⟨false, D2, fun H6 g6 => ⟨_, rfl, iteF ?_⟩⟩
  -- Freed(((False,),), 0) == Freed(((0,),), 0)
  refine ⟨(by show 1 ≤ sizeLine; decide), fun p7 h7 => ⟨(by show 1 ≤ sizeLine; decide), fun p8 h8 => ?_⟩⟩
  have e7 := (Ext.upd (o := .tup [.bl false]) h7).upd' (o := .tup [.ref p7]) h8
  have n78 : p7 ≠ p8 := ne_of_none upd_same h8
  refine ⟨[.tuple [.tuple [.bool false]], .int 0], .cons (.tup (SqT.of upd_same) (.cons (.tup (SqT.of (by rw [upd_ne n78]; exact upd_same)) (.cons (.bl false) .nil)) .nil)) (.cons (.int 0) .nil), rfl, fits2 gtf.1 (.int 0), fun x5 H7 g7 w5 => ?_⟩
  refine ⟨(by show 1 ≤ sizeLine; decide), fun p9 h9 => ⟨(by show 1 ≤ sizeLine; decide), fun pa ha => ?_⟩⟩
  have e9 := (Ext.upd (o := .tup [.int 0]) h9).upd' (o := .tup [.ref p9]) ha
  have n9a : p9 ≠ pa := ne_of_none upd_same ha
  refine ⟨[.tuple [.tuple [.int 0]], .int 0], .cons (.tup (SqT.of upd_same) (.cons (.tup (SqT.of (by rw [upd_ne n9a]; exact upd_same)) (.cons (.int 0) .nil)) .nil)) (.cons (.int 0) .nil), rfl, fits2 gt0.1 (.int 0), fun x6 H8 g8 w6 => ?_⟩
  have t5 : List.map told [.tuple [.tuple [.bool false]], .int 0] = [.tuple [.tuple [.bool false]], .int 0] := by simp [told]
  rw [t5] at w5
  rw [t4] at w6
  have D3 := dl_of kf.pc kf.pc (w5.ext (e9.trans g8)) w6 (kf.nf _ kfm) (good2 wf gtf (gi 0)) (good2 wf gt0 (gi 0))
  rw [al3, Bool.and_false] at D3
  exact ⟨false, D3, fun H9 g9 => ⟨_, rfl, iteF (k H9 ((e1.trans g1).trans ((e2.trans g2).trans (g3.trans ((e3.trans g4).trans ((e5.trans g5).trans (g6.trans ((e7.trans g7).trans ((e9.trans g8).trans g9)))))))))⟩⟩
end
end P45

/-! k45: needed, the law's answer, the law's def. -/
namespace P45
open PySem L2 M45
def ndT : PyData := .tuple [.tuple [.str "b", .none], .tuple [.str "a", .int 5]]
def ndL : PyData := .list [.tuple [.str "b", .none], .tuple [.str "a", .int 5]]
theorem ndL_fits : Fits 2 ndL := by
  refine .list (by show 2 ≤ 1000; decide) fun x hx => ?_
  simp only [List.mem_cons, List.not_mem_nil, or_false] at hx
  rcases hx with rfl | rfl
  · refine .tuple (by show 2 ≤ 1000; decide) fun y hy => ?_
    simp only [List.mem_cons, List.not_mem_nil, or_false] at hy
    rcases hy with rfl | rfl
    · exact .str _
    · exact .non
  · refine .tuple (by show 2 ≤ 1000; decide) fun y hy => ?_
    simp only [List.mem_cons, List.not_mem_nil, or_false] at hy
    rcases hy with rfl | rfl
    · exact .str _
    · exact .int 5
theorem nd_told : List.map told [ndL, .none] = [ndT, .none] := by simp [ndL, ndT, told]
theorem ba_shaped : SeqAt.shaped (.tuple [.str "b", .str "a"]) = true := by decide +kernel
theorem ba_eqv : PyData.eqv (.tuple [.str "b", .str "a"]) (.tuple [.str "b", .str "a"]) = true := by decide +kernel
/-- the heads of needed's rows -/
theorem nd_rows {K : PySem.W.Frag} {H : Hp} {v : V} (h : Dp K H v ndT) : ∃ t x y p q u z, v = .ref t ∧ SqT K H t [x, y] ∧ x = .ref p ∧ y = .ref q ∧ SqT K H p [.str "b", u] ∧ SqT K H q [.str "a", z] := by
  unfold ndT at h
  cases h with
  | tup h1 h2 =>
    cases h2 with
    | cons a h2 =>
      cases h2 with
      | cons b h2 =>
        cases h2
        cases a with
        | tup a1 a2 =>
          cases b with
          | tup b1 b2 =>
            cases a2 with
            | cons c1 c2 =>
              cases c2 with
              | cons c3 c4 =>
                cases c4
                cases c1
                cases b2 with
                | cons d1 d2 =>
                  cases d2 with
                  | cons d3 d4 =>
                    cases d4
                    cases d1
                    exact ⟨_, _, _, _, _, _, _, rfl, h1, rfl, rfl, a1, b1⟩
section
variable {P : Program} {w : World} {K : PySem.W.Frag} {mg : Str → Option Value} {base : Heap} {c : CS} {f : Addr} {cdv : Value} {A : Around} {outer : List Env} {s : Shared} {H0 : Hp} {E : XK}
theorem lawNeed (F : LawF P w K mg base c) (hr : Room 10 (LX P w K mg base f cdv A outer s H0 E).A) : ∃ t, PS (LX P w K mg base f cdv A outer s H0 E) (lw 3) t ∧ ∀ (D : Ends) (H : Hp) (p : Addr) (a0 a2 a3 a4 a5 a6 a7 a8 a9 a10 a11 a12 a13 a14 a15 a16 a17 a18 : Option V),
    (∀ x H', PAt K H' x c.needed "needed" [ndT, .none] ["torn", "freed"] → D.nx (sgm a0 p a2 a3 a4 a5 a6 a7 a8 a9 a10 a11 a12 a13 a14 a15 a16 a17 (some (.ref x))) H') → t D (sgm a0 p a2 a3 a4 a5 a6 a7 a8 a9 a10 a11 a12 a13 a14 a15 a16 a17 a18) H := by
  refine ⟨_, ps_set (i := 18) scLw.nd rfl (Or.inl rfl) (pe_mk F.needed (hr.mono (by omega)) rfl (pa_cons (pe_lst (pa_cons (pe_tup (pa_cons pe_str (pa_cons pe_non pa_nil))) (pa_cons (pe_tup (pa_cons pe_str (pa_cons pe_int pa_nil))) pa_nil))) (pa_cons pe_non pa_nil))), ?_⟩
  intro D H p a0 a2 a3 a4 a5 a6 a7 a8 a9 a10 a11 a12 a13 a14 a15 a16 a17 a18 k
  refine ⟨(by show 2 ≤ sizeLine; decide), fun p1 h1 => ⟨(by show 2 ≤ sizeLine; decide), fun p2 h2 => ⟨(by show 2 ≤ sizeLine; decide), fun p3 h3 => ?_⟩⟩⟩
  have n12 : p1 ≠ p2 := ne_of_none upd_same h2
  have n13 : p1 ≠ p3 := ne_of_none (by rw [upd_ne n12]; exact upd_same) h3
  have n23 : p2 ≠ p3 := ne_of_none upd_same h3
  refine ⟨[ndL, .none], .cons (.lst (SqL.of upd_same) (.cons (.tup (SqT.of (by rw [upd_ne n13, upd_ne n12]; exact upd_same)) (.cons (.str _) (.cons .non .nil))) (.cons (.tup (SqT.of (by rw [upd_ne n23]; exact upd_same)) (.cons (.str _) (.cons (.int 5) .nil))) .nil))) (.cons .non .nil), rfl, fits2 ndL_fits .non, fun x H1 g1 w1 => ?_⟩
  rw [nd_told] at w1
  exact k x H1 w1
theorem lawRet (F : LawF P w K mg base c) (hr : Room 10 (LX P w K mg base f cdv A outer s H0 E).A) : ∃ t, PS (LX P w K mg base f cdv A outer s H0 E) (lw 4) t ∧ ∀ (D : Ends) (H : Hp) (p x : Addr) (a0 a2 a3 a4 a5 a6 a7 a8 a9 a10 a11 a12 a13 a14 a15 a16 a17 : Option V), PAt K H x c.needed "needed" [ndT, .none] ["torn", "freed"] →
    (∀ H', D.rt (.bl true) H') → t D (sgm a0 p a2 a3 a4 a5 a6 a7 a8 a9 a10 a11 a12 a13 a14 a15 a16 a17 (some (.ref x))) H := by
  have hu : (LX P w K mg base f cdv A outer s H0 E).A.units + 64 < cLine := by have := hr.un; omega
  obtain ⟨fc, fdc, GC, bc, mc⟩ := F.count
  obtain ⟨fP, MP, MD, GP, gP, gD⟩ := F.star
  obtain ⟨y1, y2, y3, y4⟩ := F.kits
  have pn := F.needed.pc
  refine ⟨_, ps_ret (pe_and (pe_cmpR (op_eqD hu) (pe_meth0 (pv 18) pn.cl mc GC (hr.mono (by omega)) bc .nil pass0) (pe_tup (pa_cons pe_str (pa_cons pe_str pa_nil))) (nomark _))
    (pe_and (pe_callB call_isi (by rfl) F.bl.isi (by decide +kernel) (pa_cons (pv 18) (pa_cons (pe_glob (v := .ref c.P) rfl gP rfl) pa_nil)))
    (pe_and (pe_not (pe_callB call_isi (by rfl) F.bl.isi (by decide +kernel) (pa_cons (pe_mk F.freed (hr.mono (by omega)) rfl (pa_cons pe_int (pa_cons pe_int pa_nil))) (pa_cons (pe_glob (v := .ref c.D) rfl gD rfl) pa_nil))))
    (pe_and (pe_callB call_isi (by rfl) F.bl.isi (by decide +kernel) (pa_cons (pe_mk F.torn (hr.mono (by omega)) rfl (pa_cons pe_int (pa_cons pe_int (pa_cons pe_int pa_nil)))) (pa_cons (pe_glob (v := .ref c.D) rfl gD rfl) pa_nil)))
    (pe_one (pe_callB call_isi (by rfl) F.bl.isi (by decide +kernel) (pa_cons (pe_mk F.unmet (hr.mono (by omega)) rfl (pa_cons pe_int pa_nil)) (pa_cons (pe_glob (v := .ref c.D) rfl gD rfl) pa_nil)))))))), ?_⟩
  intro D H p x a0 a2 a3 a4 a5 a6 a7 a8 a9 a10 a11 a12 a13 a14 a15 a16 a17 w1 k
  obtain ⟨dx, fs, t0, zs, z1, z2, z3, z4, z5, z6, z7⟩ := w1.ex
  obtain ⟨v, hv, hd⟩ := dpGet' (i := 0) (d := ndT) z5 rfl
  have hf := z6 0 "torn" v rfl hv
  obtain ⟨t, xa, ya, q1, q2, ua, za, rfl, st, rfl, rfl, s1, s2⟩ := nd_rows hd
  have km := (F.kinOf (xs := fun _ => 0) (d1 := .none) (d2 := .none) (d3 := .none) (r := ⟨0, c.needed, "Needed", "needed", ["torn", "freed"], [.none, .none], true⟩) (by simp [rsOf])).2.1
  refine ⟨_, rfl, x, dx, fs, rfl, z1, z7 "counted" (by decide +kernel) (by decide +kernel) (by decide +kernel), ?_⟩
  refine ⟨x, c.needed, dx, t, fs, [.ref q1, .ref q2], [.str "b", .str "a"], rfl, z1, pn.cl, km _ (by simp), hf, st, rfl, (by show 2 ≤ 1000; decide), ?_, fun l H1 e1 hl => ?_⟩
  · intro i y hy
    match i, hy with
    | 0, hy => cases hy; exact ⟨q1, _, _, rfl, s1, rfl, rfl⟩
    | 1, hy => cases hy; exact ⟨q2, _, _, rfl, s2, rfl, rfl⟩
  refine ⟨(by show 2 ≤ sizeLine; decide), fun m hm => ?_⟩
  have e2 := Ext.upd (o := .tup [.str "b", .str "a"]) hm
  refine ⟨.tuple [.str "b", .str "a"], .tuple [.str "b", .str "a"], .tup (hl.ext e2) (.cons (.str _) (.cons (.str _) .nil)), .tup (SqT.of upd_same) (.cons (.str _) (.cons (.str _) .nil)), ba_shaped, ba_shaped, _, rfl, ?_⟩
  rw [ba_eqv]
  refine iteT ?_
  refine ⟨_, rfl, _, .ref c.P, .ref c.needed, .ref c.P, true, rfl, .own c.P, pn.ty ((e1.trans e2) _ _ z1), y1, _, rfl, iteT ?_⟩
  refine ⟨[.int 1, .int 2], .cons (.int 1) (.cons (.int 2) .nil), rfl, fits2 (.int 1) (.int 2), fun x2 H2 g2 w2 => ?_⟩
  obtain ⟨dx2, fs2, _, _, i2, _⟩ := w2.ex
  refine ⟨_, .ref c.D, .ref c.freed, .ref c.D, false, rfl, .own c.D, F.freed.pc.ty i2, y2, _, rfl, _, rfl, iteT ?_⟩
  refine ⟨[.int 1, .int 2, .int 3], .cons (.int 1) (.cons (.int 2) (.cons (.int 3) .nil)), rfl, fits3 (.int 1) (.int 2) (.int 3), fun x3 H3 g3 w3 => ?_⟩
  obtain ⟨dx3, fs3, _, _, i3, _⟩ := w3.ex
  refine ⟨_, .ref c.D, .ref c.torn, .ref c.D, true, rfl, .own c.D, F.torn.pc.ty i3, y3, _, rfl, iteT ?_⟩
  refine ⟨[.int 1], .cons (.int 1) .nil, rfl, fits1 (.int 1), fun x4 H4 g4 w4 => ?_⟩
  obtain ⟨dx4, fs4, _, _, i4, _⟩ := w4.ex
  exact ⟨_, .ref c.D, .ref c.unmet, .ref c.D, true, rfl, .own c.D, F.unmet.pc.ty i4, y4, k _⟩
end
end P45

/-! k45: the law's def, called by the caller's own hand (repr asks that nothing is being shown around it). -/
namespace P45
open PySem L2 M45 PySem.Spec PyProof.Rows
/-- the law's promise -/
def spLaw (K : PySem.W.Frag) : Sp := fun vs H Q _ => ∃ (a : Addr) (ns : List Int), vs = [.ref a] ∧ SqL K H a (ns.map V.int) ∧ ∀ H', Q (.bl true) H'
section
variable {P : Program} {w : World} {K : PySem.W.Frag} {mg : Str → Option Value} {base : Heap} {c : CS}
/-- the law's body -/
theorem law_body {f : Addr} {cdv : Value} {A : Around} {outer : List Env} {s : Shared} {H : Hp} {vs : List V} {Q : VK} {E : XK} (F : LawF P w K mg base c) (hr : Room 10 (A.deeper (envOfC "law" (defScope sLaw) s.heap.objs.size f cdv))) (hg : A.guards = some []) (h : spLaw K vs H Q E) :
    ∃ t, PSs (cxOf CX0 P w K mg base lawN "law" (defScope sLaw) f cdv A outer s H E).nox (defBody sLaw) t ∧ t { nx := fun _ H' => Q .non H', rt := Q } (start lawN vs) H := by
  have hgd : (LX P w K mg base f cdv A outer s H E).A.guards = some [] := hg
  obtain ⟨u0, p0, w0⟩ := lawPen (f := f) (cdv := cdv) (A := A) (outer := outer) (s := s) (H0 := H) (E := E) F hr
  obtain ⟨u1, p1, w1⟩ := lawLoop (f := f) (cdv := cdv) (A := A) (outer := outer) (s := s) (H0 := H) (E := E) F hr hgd
  obtain ⟨u2, p2, w2⟩ := lawLast (f := f) (cdv := cdv) (A := A) (outer := outer) (s := s) (H0 := H) (E := E) F hr
  obtain ⟨u3, p3, w3⟩ := lawNeed (f := f) (cdv := cdv) (A := A) (outer := outer) (s := s) (H0 := H) (E := E) F hr
  obtain ⟨u4, p4, w4⟩ := lawRet (f := f) (cdv := cdv) (A := A) (outer := outer) (s := s) (H0 := H) (E := E) F hr
  obtain ⟨a, ns, rfl, hs, k⟩ := h
  refine ⟨_, pss_cons p0 (pss_cons p1 (pss_cons p2 (pss_cons p3 (pss_one p4)))), ?_⟩
  refine w0 _ H a ns hs fun p H1 pn => ?_
  refine w1 _ H1 p _ _ _ _ _ _ _ _ _ _ _ _ _ _ _ _ _ _ pn fun b2 b3 b4 b5 b6 b7 b8 b9 b10 b11 b12 b13 b14 b15 b16 b17 b18 H2 pn2 => ?_
  refine w2 _ H2 _ fun H3 e3 => ?_
  refine w3 _ H3 p _ _ _ _ _ _ _ _ _ _ _ _ _ _ _ _ _ _ fun x H4 w => ?_
  exact w4 _ H4 p x _ _ _ _ _ _ _ _ _ _ _ _ _ _ _ _ _ w fun H5 => k H5
/-- a call of the law's def, from where nothing is being shown -/
theorem run_law {f : Addr} {fd : FuncData} (FL : Fun K "law" "law" sLaw f fd) (F : LawF P w K mg base c) {A : Around} {outer : List Env} {s : Shared} {H : Hp} {args : Args} {us : List Value} {vs : List V} {Q : VK} {E : XK} (hg : A.guards = some []) (hr : Room 11 A) (e0 : Env0 P w K mg base A outer s H)
    (hb : BindsTo s fd args (([("script" : Str)] : List Str).zip us)) (r : Vals vs us) (h : spLaw K vs H Q E) : codeAny (model P w) A (.call (.ref f) args) (CR CX0 outer P w H s Q E) s := by
  obtain ⟨oc, od, kV, doc, pm, an, cdv, ct, osl, rfl, lk, hcd⟩ := FL.ex
  have hl : vs.length = (["script"] : List Str).length := by
    obtain ⟨a, ns, rfl, _⟩ := h
    rfl
  have KX : K.In s.heap := e0.mod.kin.keeps fun b o e => (e0.bs b o e).1
  have lim : s.heap.NoLimit := e0.mod.nolimit.keeps fun b o e => (e0.bs b o e).1
  have S := scLw
  refine codeAny_call_function hr.depth (KX _ _ lk) rfl S.co S.gen rfl (PySem.W.codeRec_of KX hcd) (hb _ _ _ _ ?_)
  refine wpAny_newFunctionEnv_cells S.kind (fun ⟨n, v⟩ hy => ?_) fun env he s1 x => ?_
  · rcases S.par n (List.of_mem_zip hy).1 with q | q
    · exact .inl q
    · exact .inr ⟨q, PySem.W.cellsFrom_some _ _ _ (.inl q)⟩
  subst he
  refine ⟨lim.keeps x.toInCall.keep, codeAny_func ?_⟩
  obtain ⟨t, ht, hq⟩ := law_body (f := f) (cdv := cdv) (outer := outer) F (hr.deeper _) hg h
  have I := inv_start (CX := CX0) (f := f) (cd := cdv) (E := E) S hr.hd e0 hl r x
  refine wpAny_mono (ht.nox.run [] s1 (start lawN vs) H _ I hq) (fun fl s' hs => ?_) fun e s' hs => hs
  cases fl with
  | ret u =>
    obtain ⟨v, σ', H', J, rv, q⟩ := hs
    exact ⟨v, H', J.os, J.bare, J.base, J.hok, rv, q⟩
  | next =>
    obtain ⟨σ', H', J, q⟩ := hs
    exact ⟨V.non, H', J.os, J.bare, J.base, J.hok, rfl, q⟩
  | brk =>
    obtain ⟨_, _, _, q⟩ := hs
    exact False.elim q
  | cont =>
    obtain ⟨_, _, _, q⟩ := hs
    exact False.elim q
/-- from a heap of which at most the script is told -/
theorem law_from {mb : Str → Option Value} {fa a : Addr} {fd : FuncData} {s₁ : Shared} {us : List Value} {ns : List Int} {H : Hp} (FL : Fun K "law" "law" sLaw fa fd) (F : ∀ base : Heap, K.In base → base.Ns mainGlobals mg → LawF P w K mg base c) (hbind : ∀ (s : Shared) (u : Value), BindsTo s fd ⟨[u], []⟩ [("script", u)])
    (KX : K.In s₁.heap) (hns : s₁.heap.Ns mainGlobals mg) (hb : s₁.heap.Ns builtinsNs mb) (hbb : ∀ x : Str, x ≠ "__name__" → mb x = bootBuiltins x) (hlim : s₁.heap.NoLimit) (hg : s₁.gens = #[])
    (ha : s₁.heap.get? a = some { cls := .type "list", data := .seq us.toArray }) (hO : Only H) (hS : SqL K H a (ns.map V.int)) (hok : HOk P w H s₁.heap) (hA : ∀ b, H b ≠ none → b = a) (hK : H a ≠ none → K.lookup a = none) :
    codeAny (model P w) callerA (.call (.ref fa) ⟨[.ref a], []⟩) (fun r s' => r = .ok (.ret (.bool true)) ∧ OldK s₁.heap s'.heap ∧ s'.os = s₁.os ∧ AllBare s'.gens) s₁ := by
  -- all but the script is of the base
  have hid : ∀ {b : Addr} {o : Obj}, s₁.heap.get? b = some o → b ≠ a ∨ H a = none → (hidT s₁.heap H).get? b = some o := fun {b o} e q => hidT_get e (by
    cases z : H b with
    | none => rfl
    | some u =>
      have eb := hA b (by rw [z]; simp)
      subst eb
      rcases q with q | q
      · exact absurd rfl q
      · rw [q] at z; cases z)
  have nsB : ∀ {b : Addr} {m : Str → Option Value}, s₁.heap.Ns b m → (hidT s₁.heap H).Ns b m := fun {b m} ⟨o, es, ep, e, d, r⟩ => ⟨o, es, ep, hid e (.inl fun z => by
    subst z
    rw [ha] at e
    cases e
    have d' : Data.seq us.toArray _ = Data.dict es ep := d
    cases d'), d, r⟩
  have KB : K.In (hidT s₁.heap H) := fun b o e => hid (KX b o e) (by
    by_cases q : b = a
    · subst q
      refine .inr ?_
      cases z : H b with
      | none => rfl
      | some u =>
        rw [hK (by rw [z]; simp)] at e
        cases e
    · exact .inl q)
  obtain ⟨mc, c1, c2⟩ := hlim
  have e0 : Env0 P w K mg (hidT s₁.heap H) callerA [] s₁ H := ⟨rfl, ⟨KB, nsB hns, ⟨mb, nsB hb, hbb⟩, ⟨mc, nsB c1, c2⟩⟩, fun b o e => of_hidT e, Nat.le_of_eq (hidT_size _ _), trivial, fun b hb => absurd (show b ∈ ([] : List Addr) from hb) (by simp), hok, .of_eq hg⟩
  refine codeAny_mono (run_law (vs := [.ref a]) (us := [.ref a]) (Q := fun v _ => v = .bl true) (E := fun _ _ _ => False) FL (F _ KB (nsB hns)) rfl ⟨rfl, by decide, by decide⟩ e0 (hbind s₁ (.ref a)) (.cons rfl .nil) ⟨a, ns, rfl, hS, fun _ => rfl⟩) fun r s' h => ?_
  cases r with
  | error e => exact h.elim
  | ok fl =>
    cases fl with
    | next => exact False.elim h
    | brk => exact False.elim h
    | cont => exact False.elim h
    | ret u =>
      obtain ⟨v, H', os, bare, un, hok', r', q⟩ := h
      have q' : v = .bl true := q
      subst q'
      obtain rfl : u = Value.bool true := r'
      refine ⟨rfl, OldK.of_keep fun b o e => ?_, os, bare⟩
      cases q : H b with
      | none => exact un.keep b o e q (by intro z; exact absurd (show b ∈ ([] : List Addr) from z) (by simp)) (by simp)
      | some u =>
        rcases hO b with z | ⟨ob, ys, z⟩
        · rw [q] at z; cases z
        · obtain ⟨e1, _⟩ := hok b _ z
          obtain ⟨e2, _⟩ := hok' b _ (un.frzs b ob _ z)
          rw [e] at e1
          cases e1
          exact e2
/-- the law, at the heap behind the top -/
theorem law_call45 {mb : Str → Option Value} {fa a : Addr} {fd : FuncData} {s₁ : Shared} {us : List Value} {ns : List Int} (FL : Fun K "law" "law" sLaw fa fd) (F : ∀ base : Heap, K.In base → base.Ns mainGlobals mg → LawF P w K mg base c) (hbind : ∀ (s : Shared) (u : Value), BindsTo s fd ⟨[u], []⟩ [("script", u)])
    (KX : K.In s₁.heap) (hns : s₁.heap.Ns mainGlobals mg) (hb : s₁.heap.Ns builtinsNs mb) (hbb : ∀ x : Str, x ≠ "__name__" → mb x = bootBuiltins x) (hlim : s₁.heap.NoLimit) (hg : s₁.gens = #[])
    (ha : s₁.heap.get? a = some { cls := .type "list", data := .seq us.toArray }) (hi : IntsAre us ns) (hl : ns.length ≤ sizeLine) :
    codeAny (model P w) callerA (.call (.ref fa) ⟨[.ref a], []⟩) (fun r s' => r = .ok (.ret (.bool true)) ∧ OldK s₁.heap s'.heap ∧ s'.os = s₁.os ∧ AllBare s'.gens) s₁ := by
  have rv := vals_ints hi
  have lenV := hi.length
  cases hk : K.lookup a with
  | some o =>
    have e := KX a o hk
    rw [ha] at e
    cases e
    exact law_from (H := fun _ => none) FL F hbind KX hns hb hbb hlim hg ha (fun _ => .inl rfl) (.inr ⟨_, us.toArray, _, hk, rfl, rfl, rfl, by rw [List.size_toArray, lenV]; exact hl, by simpa using rv⟩) (fun b u z => by cases (show (none : Option HO) = some u from z)) (fun b z => absurd rfl z) fun z => absurd rfl z
  | none =>
    refine law_from (H := fun b => if b = a then some (.frz { cls := .type "list", data := .seq us.toArray } (.lst (ns.map V.int))) else none) FL F hbind KX hns hb hbb hlim hg ha (fun b => ?_) (.inl (.inr ⟨_, if_pos rfl⟩)) (fun b u z => ?_) (fun b z => ?_) fun _ => hk
    · by_cases q : b = a
      · exact .inr ⟨_, _, if_pos q⟩
      · exact .inl (if_neg q)
    · by_cases q : b = a
      · have z' := (if_pos q).symm.trans z
        cases z'
        subst q
        exact ⟨ha, by rw [List.length_map]; exact hl, us, _, rv, ha⟩
      · cases (if_neg q).symm.trans z
    · by_cases q : b = a
      · exact q
      · exact absurd (if_neg q) z
end
theorem walk45 {l : PySem.W.OpenLaw} {q : Program} {loose : List Str} {XP : (Str → Option Value) → Heap → Prop} {YP : World → Heap → Prop} {d : DefRec} {K : Params → PySem.W.Frag} (hn : l.most = some 63) (hdf : d.params.defaults = [])
    (hY : ∀ (w : World) (h : Heap), YP w h → (K w.params).In h)
    (F : ∀ (w : World) (mg : Str → Option Value) (fa : Addr) (h : Heap), (K w.params).In h → h.Ns mainGlobals mg → mg d.name = some (.ref fa) →
      ∃ (fd : FuncData) (c : CS), Fun (K w.params) "law" "law" sLaw fa fd ∧ (∀ (s : Shared) (u : Value), BindsTo s fd ⟨[u], []⟩ [("script", u)]) ∧ ∀ base : Heap, (K w.params).In base → base.Ns mainGlobals mg → LawF l.prog w (K w.params) mg base c) :
    PySem.W.WalkO q loose XP YP l.row.toRowW d [] (fun f vs => PySem.call f vs) := by
  refine Att.attach_call hn hdf fun w s₀ s₁ mg mb fa o pm cd doc a vs ns G Y ho hd hcd hmg hobj hints hlen hg => ?_
  have KX := hY w _ Y
  obtain ⟨fd, c, FL, hb, hF⟩ := F w mg fa _ KX G.T.g hmg
  exact law_call45 FL hF hb KX G.T.g G.T.b G.T.builtins G.T.nolimit hg hobj hints (Nat.le_trans hlen (by decide))
end P45

/-! k45: what the top has written, gathered. -/
namespace P45
open PySem L2 M45 PyProof.Rows
/-- what the text has of a class of papers -/
structure CT (K : PySem.W.Frag) (C CP eP : Addr) (n : Str) : Prop where
  nm : PySem.W.NameIn K C n
  pg : PySem.W.plainGet K C Str.empty = true
  hd : PySem.W.hasDictIn K C = true
  po : PySem.W.plainOver K C = true
  sa : PySem.W.findIn K (.ref C) "__setattr__" = some (some (.builtin "object.__setattr__"))
  mks : PySem.W.makesIn K C = true
  kc : PySem.W.keepIn K (.ref C) = true
  ha : PySem.W.findIn K (.ref C) "__class__" = some (some (.builtin "object.__class__"))
  hm : PySem.W.mroIn K C (.type "object") = some true
  nW : PySem.W.findIn K (.ref C) "word" = some none
  nP : PySem.W.findIn K (.ref C) "parts" = some none
  eq : PySem.W.findIn K (.ref C) "__eq__" = some (some (.ref eP))
  ne : PySem.W.findIn K (.ref C) "__ne__" = some (some (.builtin "object.__ne__"))
  nfL : PySem.W.notFirst K C (.type "list") = true
  isP : PySem.W.kitOne K (.ref C) (.ref CP) = some true
theorem name_mk {K : PySem.W.Frag} {C : Addr} {n : Str} {dd : Option Addr} {cd : ClassData} {sl : Array (Option Value)} {t : Tok} (h : K.lookup C = some ⟨.type "type", dd, .cls cd, sl⟩) (h2 : sl[2]? = some (some (.str n t))) : PySem.W.NameIn K C n := ⟨dd, cd, sl, t, h, h2⟩
/-- what the text has of the machinery about classes -/
structure MT (K : PySem.W.Frag) : Prop where
  op : PySem.W.nsIn K cStatics "thirdparty.any" = some none
  hn : PySem.W.specialIn K (.builtin "object.__class__") "__get__" = some (some (.builtin "getset_descriptor.__get__"))
  ht : PySem.W.takesIn K (.builtin "object.__class__") = some true
theorem CT.pcls {K : PySem.W.Frag} {C CP eP : Addr} {n : Str} (c : CT K C CP eP n) (m : MT K) (i : PySem.W.isFn K (.ref eP) = true) : PCls K C n CP eP :=
  ⟨⟨c.pg, c.hd, c.po, c.sa⟩, ⟨c.nm, m.op, c.ha, m.hn, m.ht, c.hm⟩, c.nW, c.nP, ⟨c.eq, i, c.ne, c.hm⟩, c.isP, c.nfL⟩
/-- the same of a class below Paper with its own __init__ at f -/
structure ST (K : PySem.W.Frag) (C fP f : Addr) : Prop where
  init : PySem.W.findIn K (.ref C) "__init__" = some (some (.ref f))
  fn : PySem.W.isFn K (.ref f) = true
  mro : PySem.W.mroIn K C (.ref C) = some true
  sup : PySem.W.ks_superIn K C C "__init__" = some (some (.ref fP))
theorem CT.subc {K : PySem.W.Frag} {C CP eP fP f : Addr} {n : Str} (c : CT K C CP eP n) (s : ST K C fP f) (ty : PySem.W.typeIn K (.ref fP) = some (.type "function")) (fn : PySem.W.fnIn K fP = true) : SubC K C fP :=
  ⟨⟨c.pg, c.hd, c.po, c.sa⟩, c.nW, c.nP, s.mro, s.sup, ty, fn⟩
/-- a def that mentions super, as it stands -/
def SupEx (P : Program) (K : PySem.W.Frag) (q : Str) (st : Stmt) (f D : Addr) : Prop := ∃ (fd : FuncData) (cc c : Addr), SupX.SupFun P K (nfOf q st [("__class__", cc)] c) f cc D fd
theorem sup_mk {P : Program} {K : PySem.W.Frag} {q file : Str} {st : Stmt} {f D cc c : Addr} {oc o1 o4 kV doc pm ct : Value} {od an o2 o5 : Option Addr} {osl o3 o6 : Array (Option Value)} {vs : Array Value} {tf : Tok} {cd : ClassData}
    (l : K.lookup f = some ⟨oc, od, .func (PySem.W.fnX "__init__" q (defArgs st) (defBody st) (defScope st) [("__class__", cc)] .none kV doc pm an (.ref c) ct), osl⟩) (h1 : PySem.W.codeIn K (.ref c) q = true) (h2 : K.lookup cc = some ⟨o1, o2, .cell (some (.ref D)), o3⟩)
    (h3 : K.lookup c = some ⟨o4, o5, .fields vs, o6⟩) (h4 : vs[2]? = some (.str file tf)) (h5 : ((P.main.file : Str) == file) = true) (h6 : PySem.W.clsIn K D = some cd) (h7 : PySem.W.keepIn K (.ref f) = true) : SupEx P K q st f D :=
  ⟨_, cc, c, ⟨⟨oc, od, osl, kV, doc, pm, an, ct, l, rfl⟩, rfl, h1, ⟨o1, o2, o3, h2⟩, ⟨o4, o5, o6, vs, file, tf, h3, h4, h5⟩, ⟨cd, h6⟩, h7⟩⟩
theorem vals_rev {xs : List V} {us : List Value} (h : Vals xs us) : Vals xs.reverse us.reverse := by
  induction h with
  | nil => exact .nil
  | cons a _ ih =>
    rw [List.reverse_cons, List.reverse_cons]
    exact ih.append (.cons a .nil)
section
variable {P : Program} {K : PySem.W.Frag} {f cc c D : Addr} {fd : FuncData}
theorem bd_dies (S : SupX.SupFun P K (nfOf "Dies.__init__" (inClass (top 11) 0) [("__class__", cc)] c) f cc D fd) : Binds K fd ["self", "run", "rows"] [] ∧ KBn K fd ["self", "run", "rows"] 1 ["rows", "run"] (fun us ws => us ++ ws.reverse) (fun vs zs => vs ++ zs.reverse) := by
  obtain ⟨oc, od, osl, kV, doc, pm, an, ct, _, rfl⟩ := S.ex
  refine ⟨Binds.all fun us hl => ?_, ⟨fun s us ws _ l1 l2 => ?_, fun r1 r2 => r1.append (vals_rev r2)⟩⟩
  · match us, hl with
    | [_, _, _], _ => rfl
  · match us, ws, l1, l2 with
    | [_], [_, _], _, _ => exact BindsTo.of_eq rfl
theorem bd_lives (S : SupX.SupFun P K (nfOf "Lives.__init__" (inClass (top 12) 0) [("__class__", cc)] c) f cc D fd) : Binds K fd ["self", "run", "rows"] [] ∧ KBn K fd ["self", "run", "rows"] 1 ["rows", "run"] (fun us ws => us ++ ws.reverse) (fun vs zs => vs ++ zs.reverse) := by
  obtain ⟨oc, od, osl, kV, doc, pm, an, ct, _, rfl⟩ := S.ex
  refine ⟨Binds.all fun us hl => ?_, ⟨fun s us ws _ l1 l2 => ?_, fun r1 r2 => r1.append (vals_rev r2)⟩⟩
  · match us, hl with
    | [_, _, _], _ => rfl
  · match us, ws, l1, l2 with
    | [_], [_, _], _, _ => exact BindsTo.of_eq rfl
theorem bd_both (S : SupX.SupFun P K (nfOf "Both.__init__" (inClass (top 13) 0) [("__class__", cc)] c) f cc D fd) : Binds K fd ["self", "run", "other"] [] ∧ KBn K fd ["self", "run", "other"] 1 ["other", "run"] (fun us ws => us ++ ws.reverse) (fun vs zs => vs ++ zs.reverse) := by
  obtain ⟨oc, od, osl, kV, doc, pm, an, ct, _, rfl⟩ := S.ex
  refine ⟨Binds.all fun us hl => ?_, ⟨fun s us ws _ l1 l2 => ?_, fun r1 r2 => r1.append (vals_rev r2)⟩⟩
  · match us, hl with
    | [_, _, _], _ => rfl
  · match us, ws, l1, l2 with
    | [_], [_, _], _, _ => exact BindsTo.of_eq rfl
theorem bd_unmet (S : SupX.SupFun P K (nfOf "Unmet.__init__" (inClass (top 14) 0) [("__class__", cc)] c) f cc D fd) : Binds K fd ["self", "rows"] [] ∧ KBn K fd ["self", "rows"] 1 ["rows"] (fun us ws => us ++ ws.reverse) (fun vs zs => vs ++ zs.reverse) := by
  obtain ⟨oc, od, osl, kV, doc, pm, an, ct, _, rfl⟩ := S.ex
  refine ⟨Binds.all fun us hl => ?_, ⟨fun s us ws _ l1 l2 => ?_, fun r1 r2 => r1.append (vals_rev r2)⟩⟩
  · match us, hl with
    | [_, _], _ => rfl
  · match us, ws, l1, l2 with
    | [_], [_], _, _ => exact BindsTo.of_eq rfl
theorem bd_deaths (S : SupX.SupFun P K (nfOf "Deaths.__init__" (inClass (top 15) 0) [("__class__", cc)] c) f cc D fd) : Binds K fd ["self", "spots", "rows"] [] ∧ KBn K fd ["self", "spots", "rows"] 1 ["rows", "spots"] (fun us ws => us ++ ws.reverse) (fun vs zs => vs ++ zs.reverse) := by
  obtain ⟨oc, od, osl, kV, doc, pm, an, ct, _, rfl⟩ := S.ex
  refine ⟨Binds.all fun us hl => ?_, ⟨fun s us ws _ l1 l2 => ?_, fun r1 r2 => r1.append (vals_rev r2)⟩⟩
  · match us, hl with
    | [_, _, _], _ => rfl
  · match us, ws, l1, l2 with
    | [_], [_, _], _, _ => exact BindsTo.of_eq rfl
theorem bd_freed (S : SupX.SupFun P K (nfOf "Freed.__init__" (inClass (top 6) 0) [("__class__", cc)] c) f cc D fd) : Binds K fd ["self", "frees", "rows"] [] ∧ KBn K fd ["self", "frees", "rows"] 1 ["rows", "frees"] (fun us ws => us ++ ws.reverse) (fun vs zs => vs ++ zs.reverse) := by
  obtain ⟨oc, od, osl, kV, doc, pm, an, ct, _, rfl⟩ := S.ex
  refine ⟨Binds.all fun us hl => ?_, ⟨fun s us ws _ l1 l2 => ?_, fun r1 r2 => r1.append (vals_rev r2)⟩⟩
  · match us, hl with
    | [_, _, _], _ => rfl
  · match us, ws, l1, l2 with
    | [_], [_, _], _, _ => exact BindsTo.of_eq rfl
theorem bd_torn (S : SupX.SupFun P K (nfOf "Torn.__init__" (inClass (top 7) 0) [("__class__", cc)] c) f cc D fd) : Binds K fd ["self", "shape", "run", "others"] [] ∧ KBn K fd ["self", "shape", "run", "others"] 1 ["others", "run", "shape"] (fun us ws => us ++ ws.reverse) (fun vs zs => vs ++ zs.reverse) := by
  obtain ⟨oc, od, osl, kV, doc, pm, an, ct, _, rfl⟩ := S.ex
  refine ⟨Binds.all fun us hl => ?_, ⟨fun s us ws _ l1 l2 => ?_, fun r1 r2 => r1.append (vals_rev r2)⟩⟩
  · match us, hl with
    | [_, _, _, _], _ => rfl
  · match us, ws, l1, l2 with
    | [_], [_, _, _], _, _ => exact BindsTo.of_eq rfl
theorem bd_needed (S : SupX.SupFun P K (nfOf "Needed.__init__" (inClass (top 9) 0) [("__class__", cc)] c) f cc D fd) : Binds K fd ["self", "torn", "freed"] [] ∧ KBn K fd ["self", "torn", "freed"] 1 ["freed", "torn"] (fun us ws => us ++ ws.reverse) (fun vs zs => vs ++ zs.reverse) := by
  obtain ⟨oc, od, osl, kV, doc, pm, an, ct, _, rfl⟩ := S.ex
  refine ⟨Binds.all fun us hl => ?_, ⟨fun s us ws _ l1 l2 => ?_, fun r1 r2 => r1.append (vals_rev r2)⟩⟩
  · match us, hl with
    | [_, _, _], _ => rfl
  · match us, ws, l1, l2 with
    | [_], [_, _], _, _ => exact BindsTo.of_eq rfl
end
theorem all45 {P : Program} {w : World} {K : PySem.W.Frag} {h : Heap} {mg : Str → Option Value} {fa : Addr} {ffx fal fpn fdw fpk fan fto flw mpi mpb mpe mdb mct cP cD cdies clives cboth cunmet cdeaths cfreed ctorn cneeded idies ilives iboth iunmet ideaths ifreed itorn ineeded : Addr} (X : K.In h) (G : h.Ns mainGlobals mg) (hfa : mg "law" = some (.ref fa))
    (afx : PySem.W.nsIn K mainGlobals "fixed" = some (some (.ref ffx)))
    (aal : PySem.W.nsIn K mainGlobals "are_alike" = some (some (.ref fal)))
    (apn : PySem.W.nsIn K mainGlobals "_law_pen" = some (some (.ref fpn)))
    (adw : PySem.W.nsIn K mainGlobals "_law_draw" = some (some (.ref fdw)))
    (apk : PySem.W.nsIn K mainGlobals "_law_pick" = some (some (.ref fpk)))
    (aan : PySem.W.nsIn K mainGlobals "_law_d_any" = some (some (.ref fan)))
    (ato : PySem.W.nsIn K mainGlobals "_law_d_told" = some (some (.ref fto)))
    (alw : PySem.W.nsIn K mainGlobals "law" = some (some (.ref flw)))
    (aP : PySem.W.nsIn K mainGlobals "Paper" = some (some (.ref cP)))
    (aD : PySem.W.nsIn K mainGlobals "Denial" = some (some (.ref cD)))
    (adies : PySem.W.nsIn K mainGlobals "Dies" = some (some (.ref cdies)))
    (alives : PySem.W.nsIn K mainGlobals "Lives" = some (some (.ref clives)))
    (aboth : PySem.W.nsIn K mainGlobals "Both" = some (some (.ref cboth)))
    (aunmet : PySem.W.nsIn K mainGlobals "Unmet" = some (some (.ref cunmet)))
    (adeaths : PySem.W.nsIn K mainGlobals "Deaths" = some (some (.ref cdeaths)))
    (afreed : PySem.W.nsIn K mainGlobals "Freed" = some (some (.ref cfreed)))
    (atorn : PySem.W.nsIn K mainGlobals "Torn" = some (some (.ref ctorn)))
    (aneeded : PySem.W.nsIn K mainGlobals "Needed" = some (some (.ref cneeded)))
    (bpi : PySem.W.findIn K (.ref cP) "__init__" = some (some (.ref mpi)))
    (bpb : PySem.W.findIn K (.ref cP) "__bool__" = some (some (.ref mpb)))
    (bpe : PySem.W.findIn K (.ref cP) "__eq__" = some (some (.ref mpe)))
    (bdb : PySem.W.findIn K (.ref cD) "__bool__" = some (some (.ref mdb)))
    (bdi : PySem.W.findIn K (.ref cD) "__init__" = some (some (.ref mpi)))
    (bct : PySem.W.findIn K (.ref cneeded) "counted" = some (some (.ref mct)))
    (Ffx : ∃ fd, Fun K "fixed" "fixed" sFixed ffx fd)
    (Fal : ∃ fd, Fun K "are_alike" "are_alike" sAlike fal fd)
    (Fpn : ∃ fd, Fun K "_law_pen" "_law_pen" sPen fpn fd)
    (Fdw : ∃ fd, Fun K "_law_draw" "_law_draw" sDraw fdw fd)
    (Fpk : ∃ fd, Fun K "_law_pick" "_law_pick" sPick fpk fd)
    (Fan : ∃ fd, Fun K "_law_d_any" "_law_d_any" sAny fan fd)
    (Fto : ∃ fd, Fun K "_law_d_told" "_law_d_told" sToldL fto fd)
    (Flw : ∃ fd, Fun K "law" "law" sLaw flw fd)
    (Fpi : ∃ fd, Fun K "__init__" "Paper.__init__" sPInit mpi fd)
    (Fpb : ∃ fd, Fun K "__bool__" "Paper.__bool__" sPBool mpb fd)
    (Fpe : ∃ fd, Fun K "__eq__" "Paper.__eq__" sPEq mpe fd)
    (Fdb : ∃ fd, Fun K "__bool__" "Denial.__bool__" sDBool mdb fd)
    (Fct : ∃ fd, Fun K "counted" "Needed.counted" sCount mct fd)
    (jpi : PySem.W.isFn K (.ref mpi) = true)
    (jpb : PySem.W.isFn K (.ref mpb) = true)
    (jpe : PySem.W.isFn K (.ref mpe) = true)
    (jdb : PySem.W.isFn K (.ref mdb) = true)
    (jct : PySem.W.isFn K (.ref mct) = true)
    (typ : PySem.W.typeIn K (.ref mpi) = some (.type "function"))
    (fni : PySem.W.fnIn K mpi = true)
    (mt : MT K)
    (xP : CT K cP cP mpe "Paper")
    (xD : CT K cD cP mpe "Denial")
    (xdies : CT K cdies cP mpe "Dies")
    (xlives : CT K clives cP mpe "Lives")
    (xboth : CT K cboth cP mpe "Both")
    (xunmet : CT K cunmet cP mpe "Unmet")
    (xdeaths : CT K cdeaths cP mpe "Deaths")
    (xfreed : CT K cfreed cP mpe "Freed")
    (xtorn : CT K ctorn cP mpe "Torn")
    (xneeded : CT K cneeded cP mpe "Needed")
    (ydies : ST K cdies mpi idies)
    (ylives : ST K clives mpi ilives)
    (yboth : ST K cboth mpi iboth)
    (yunmet : ST K cunmet mpi iunmet)
    (ydeaths : ST K cdeaths mpi ideaths)
    (yfreed : ST K cfreed mpi ifreed)
    (ytorn : ST K ctorn mpi itorn)
    (yneeded : ST K cneeded mpi ineeded)
    (Sdies : SupEx P K "Dies.__init__" (inClass (top 11) 0) idies cdies)
    (Slives : SupEx P K "Lives.__init__" (inClass (top 12) 0) ilives clives)
    (Sboth : SupEx P K "Both.__init__" (inClass (top 13) 0) iboth cboth)
    (Sunmet : SupEx P K "Unmet.__init__" (inClass (top 14) 0) iunmet cunmet)
    (Sdeaths : SupEx P K "Deaths.__init__" (inClass (top 15) 0) ideaths cdeaths)
    (Sfreed : SupEx P K "Freed.__init__" (inClass (top 6) 0) ifreed cfreed)
    (Storn : SupEx P K "Torn.__init__" (inClass (top 7) 0) itorn ctorn)
    (Sneeded : SupEx P K "Needed.__init__" (inClass (top 9) 0) ineeded cneeded)
    (odies : PySem.W.findIn K (.ref cdies) "__bool__" = some (some (.ref mpb)))
    (olives : PySem.W.findIn K (.ref clives) "__bool__" = some (some (.ref mdb)))
    (oboth : PySem.W.findIn K (.ref cboth) "__bool__" = some (some (.ref mdb)))
    (ounmet : PySem.W.findIn K (.ref cunmet) "__bool__" = some (some (.ref mdb)))
    (odeaths : PySem.W.findIn K (.ref cdeaths) "__bool__" = some (some (.ref mpb)))
    (ofreed : PySem.W.findIn K (.ref cfreed) "__bool__" = some (some (.ref mpb)))
    (otorn : PySem.W.findIn K (.ref ctorn) "__bool__" = some (some (.ref mdb)))
    (oneeded : PySem.W.findIn K (.ref cneeded) "__bool__" = some (some (.ref mpb)))
    (ndies0 : PySem.W.findIn K (.ref cdies) "run" = some none)
    (ndies1 : PySem.W.findIn K (.ref cdies) "rows" = some none)
    (nlives0 : PySem.W.findIn K (.ref clives) "run" = some none)
    (nlives1 : PySem.W.findIn K (.ref clives) "rows" = some none)
    (nboth0 : PySem.W.findIn K (.ref cboth) "run" = some none)
    (nboth1 : PySem.W.findIn K (.ref cboth) "other" = some none)
    (nunmet0 : PySem.W.findIn K (.ref cunmet) "rows" = some none)
    (ndeaths0 : PySem.W.findIn K (.ref cdeaths) "spots" = some none)
    (ndeaths1 : PySem.W.findIn K (.ref cdeaths) "rows" = some none)
    (nfreed0 : PySem.W.findIn K (.ref cfreed) "frees" = some none)
    (nfreed1 : PySem.W.findIn K (.ref cfreed) "rows" = some none)
    (ntorn0 : PySem.W.findIn K (.ref ctorn) "shape" = some none)
    (ntorn1 : PySem.W.findIn K (.ref ctorn) "run" = some none)
    (ntorn2 : PySem.W.findIn K (.ref ctorn) "others" = some none)
    (nneeded0 : PySem.W.findIn K (.ref cneeded) "torn" = some none)
    (nneeded1 : PySem.W.findIn K (.ref cneeded) "freed" = some none)
    (vdiesdies : PySem.W.notFirst K cdies (.ref cdies) = true)
    (vdieslives : PySem.W.notFirst K cdies (.ref clives) = true)
    (vdiesboth : PySem.W.notFirst K cdies (.ref cboth) = true)
    (vdiesunmet : PySem.W.notFirst K cdies (.ref cunmet) = true)
    (vdiesdeaths : PySem.W.notFirst K cdies (.ref cdeaths) = true)
    (vdiesfreed : PySem.W.notFirst K cdies (.ref cfreed) = true)
    (vdiestorn : PySem.W.notFirst K cdies (.ref ctorn) = true)
    (vdiesneeded : PySem.W.notFirst K cdies (.ref cneeded) = true)
    (vlivesdies : PySem.W.notFirst K clives (.ref cdies) = true)
    (vliveslives : PySem.W.notFirst K clives (.ref clives) = true)
    (vlivesboth : PySem.W.notFirst K clives (.ref cboth) = true)
    (vlivesunmet : PySem.W.notFirst K clives (.ref cunmet) = true)
    (vlivesdeaths : PySem.W.notFirst K clives (.ref cdeaths) = true)
    (vlivesfreed : PySem.W.notFirst K clives (.ref cfreed) = true)
    (vlivestorn : PySem.W.notFirst K clives (.ref ctorn) = true)
    (vlivesneeded : PySem.W.notFirst K clives (.ref cneeded) = true)
    (vbothdies : PySem.W.notFirst K cboth (.ref cdies) = true)
    (vbothlives : PySem.W.notFirst K cboth (.ref clives) = true)
    (vbothboth : PySem.W.notFirst K cboth (.ref cboth) = true)
    (vbothunmet : PySem.W.notFirst K cboth (.ref cunmet) = true)
    (vbothdeaths : PySem.W.notFirst K cboth (.ref cdeaths) = true)
    (vbothfreed : PySem.W.notFirst K cboth (.ref cfreed) = true)
    (vbothtorn : PySem.W.notFirst K cboth (.ref ctorn) = true)
    (vbothneeded : PySem.W.notFirst K cboth (.ref cneeded) = true)
    (vunmetdies : PySem.W.notFirst K cunmet (.ref cdies) = true)
    (vunmetlives : PySem.W.notFirst K cunmet (.ref clives) = true)
    (vunmetboth : PySem.W.notFirst K cunmet (.ref cboth) = true)
    (vunmetunmet : PySem.W.notFirst K cunmet (.ref cunmet) = true)
    (vunmetdeaths : PySem.W.notFirst K cunmet (.ref cdeaths) = true)
    (vunmetfreed : PySem.W.notFirst K cunmet (.ref cfreed) = true)
    (vunmettorn : PySem.W.notFirst K cunmet (.ref ctorn) = true)
    (vunmetneeded : PySem.W.notFirst K cunmet (.ref cneeded) = true)
    (vdeathsdies : PySem.W.notFirst K cdeaths (.ref cdies) = true)
    (vdeathslives : PySem.W.notFirst K cdeaths (.ref clives) = true)
    (vdeathsboth : PySem.W.notFirst K cdeaths (.ref cboth) = true)
    (vdeathsunmet : PySem.W.notFirst K cdeaths (.ref cunmet) = true)
    (vdeathsdeaths : PySem.W.notFirst K cdeaths (.ref cdeaths) = true)
    (vdeathsfreed : PySem.W.notFirst K cdeaths (.ref cfreed) = true)
    (vdeathstorn : PySem.W.notFirst K cdeaths (.ref ctorn) = true)
    (vdeathsneeded : PySem.W.notFirst K cdeaths (.ref cneeded) = true)
    (vfreeddies : PySem.W.notFirst K cfreed (.ref cdies) = true)
    (vfreedlives : PySem.W.notFirst K cfreed (.ref clives) = true)
    (vfreedboth : PySem.W.notFirst K cfreed (.ref cboth) = true)
    (vfreedunmet : PySem.W.notFirst K cfreed (.ref cunmet) = true)
    (vfreeddeaths : PySem.W.notFirst K cfreed (.ref cdeaths) = true)
    (vfreedfreed : PySem.W.notFirst K cfreed (.ref cfreed) = true)
    (vfreedtorn : PySem.W.notFirst K cfreed (.ref ctorn) = true)
    (vfreedneeded : PySem.W.notFirst K cfreed (.ref cneeded) = true)
    (vtorndies : PySem.W.notFirst K ctorn (.ref cdies) = true)
    (vtornlives : PySem.W.notFirst K ctorn (.ref clives) = true)
    (vtornboth : PySem.W.notFirst K ctorn (.ref cboth) = true)
    (vtornunmet : PySem.W.notFirst K ctorn (.ref cunmet) = true)
    (vtorndeaths : PySem.W.notFirst K ctorn (.ref cdeaths) = true)
    (vtornfreed : PySem.W.notFirst K ctorn (.ref cfreed) = true)
    (vtorntorn : PySem.W.notFirst K ctorn (.ref ctorn) = true)
    (vtornneeded : PySem.W.notFirst K ctorn (.ref cneeded) = true)
    (vneededdies : PySem.W.notFirst K cneeded (.ref cdies) = true)
    (vneededlives : PySem.W.notFirst K cneeded (.ref clives) = true)
    (vneededboth : PySem.W.notFirst K cneeded (.ref cboth) = true)
    (vneededunmet : PySem.W.notFirst K cneeded (.ref cunmet) = true)
    (vneededdeaths : PySem.W.notFirst K cneeded (.ref cdeaths) = true)
    (vneededfreed : PySem.W.notFirst K cneeded (.ref cfreed) = true)
    (vneededtorn : PySem.W.notFirst K cneeded (.ref ctorn) = true)
    (vneededneeded : PySem.W.notFirst K cneeded (.ref cneeded) = true)
    (u1 : PySem.W.subIn K (.ref cboth) (.ref cD) = some true)
    (u2 : cboth ≠ cD)
    (u3 : PySem.W.subIn K (.ref cdeaths) (.ref cP) = some true)
    (u4 : cdeaths ≠ cP)
    (w1 : PySem.W.kitOne K (.ref cneeded) (.ref cP) = some true)
    (w2 : PySem.W.kitOne K (.ref cfreed) (.ref cD) = some false)
    (w3 : PySem.W.kitOne K (.ref ctorn) (.ref cD) = some true)
    (w4 : PySem.W.kitOne K (.ref cunmet) (.ref cD) = some true)
    (w5 : PySem.W.kitOne K (.type "list") (.ref cP) = some false)
    (kct : PySem.W.keepIn K (.ref mct) = true)
    (top : (P.main.scope.names.lookup ("super" : Str)).isSome = false)
    (zisinstance : PySem.W.nsIn K mainGlobals "isinstance" = some none)
    (zlist : PySem.W.nsIn K mainGlobals "list" = some none)
    (ztuple : PySem.W.nsIn K mainGlobals "tuple" = some none)
    (zlen : PySem.W.nsIn K mainGlobals "len" = some none)
    (zall : PySem.W.nsIn K mainGlobals "all" = some none)
    (zzip : PySem.W.nsIn K mainGlobals "zip" = some none)
    (zbool : PySem.W.nsIn K mainGlobals "bool" = some none)
    (zint : PySem.W.nsIn K mainGlobals "int" = some none)
    (zrange : PySem.W.nsIn K mainGlobals "range" = some none)
    (zrepr : PySem.W.nsIn K mainGlobals "repr" = some none)
    (zenumerate : PySem.W.nsIn K mainGlobals "enumerate" = some none)
    (zsuper : PySem.W.nsIn K mainGlobals "super" = some none)
    : ∃ (fd : FuncData) (c : CS), Fun K "law" "law" sLaw fa fd ∧ (∀ (s : Shared) (u : Value), BindsTo s fd ⟨[u], []⟩ [("script", u)]) ∧ ∀ base : Heap, K.In base → base.Ns mainGlobals mg → LawF P w K mg base c := by
  have e := hfa.symm.trans (PySem.W.mg_of X G alw)
  cases e
  obtain ⟨dfx, Ffx⟩ := Ffx
  obtain ⟨dal, Fal⟩ := Fal
  obtain ⟨dpn, Fpn⟩ := Fpn
  obtain ⟨ddw, Fdw⟩ := Fdw
  obtain ⟨dpk, Fpk⟩ := Fpk
  obtain ⟨dan, Fan⟩ := Fan
  obtain ⟨dto, Fto⟩ := Fto
  obtain ⟨dlw, Flw⟩ := Flw
  obtain ⟨dpi, Fpi⟩ := Fpi
  obtain ⟨dpb, Fpb⟩ := Fpb
  obtain ⟨dpe, Fpe⟩ := Fpe
  obtain ⟨ddb, Fdb⟩ := Fdb
  obtain ⟨dct, Fct⟩ := Fct
  obtain ⟨edies, ccdies, cddies, Sdies⟩ := Sdies
  obtain ⟨elives, cclives, cdlives, Slives⟩ := Slives
  obtain ⟨eboth, ccboth, cdboth, Sboth⟩ := Sboth
  obtain ⟨eunmet, ccunmet, cdunmet, Sunmet⟩ := Sunmet
  obtain ⟨edeaths, ccdeaths, cddeaths, Sdeaths⟩ := Sdeaths
  obtain ⟨efreed, ccfreed, cdfreed, Sfreed⟩ := Sfreed
  obtain ⟨etorn, cctorn, cdtorn, Storn⟩ := Storn
  obtain ⟨eneeded, ccneeded, cdneeded, Sneeded⟩ := Sneeded
  have B : Bl mg := ⟨PySem.W.mg_none_of X G zisinstance, PySem.W.mg_none_of X G zlist, PySem.W.mg_none_of X G ztuple, PySem.W.mg_none_of X G zlen, PySem.W.mg_none_of X G zall, PySem.W.mg_none_of X G zzip, PySem.W.mg_none_of X G zbool, PySem.W.mg_none_of X G zint, PySem.W.mg_none_of X G zrange, PySem.W.mg_none_of X G zrepr, PySem.W.mg_none_of X G zenumerate, PySem.W.mg_none_of X G zsuper⟩
  have bfx : Binds K dfx ["value"] [] := by
    obtain ⟨oc, od, kV, doc, pm, an, cdv, ct, osl, rfl, _, _⟩ := Ffx.ex
    exact Binds.all fun us hl => match us, hl with | [_], _ => rfl
  have bal : Binds K dal ["one", "other"] [] := by
    obtain ⟨oc, od, kV, doc, pm, an, cdv, ct, osl, rfl, _, _⟩ := Fal.ex
    exact Binds.all fun us hl => match us, hl with | [_, _], _ => rfl
  have bpn : Binds K dpn ["script"] [] := by
    obtain ⟨oc, od, kV, doc, pm, an, cdv, ct, osl, rfl, _, _⟩ := Fpn.ex
    exact Binds.all fun us hl => match us, hl with | [_], _ => rfl
  have bdw : Binds K ddw ["pen", "many"] [] := by
    obtain ⟨oc, od, kV, doc, pm, an, cdv, ct, osl, rfl, _, _⟩ := Fdw.ex
    exact Binds.all fun us hl => match us, hl with | [_, _], _ => rfl
  have bpk : Binds K dpk ["pen", "some"] [] := by
    obtain ⟨oc, od, kV, doc, pm, an, cdv, ct, osl, rfl, _, _⟩ := Fpk.ex
    exact Binds.all fun us hl => match us, hl with | [_, _], _ => rfl
  have ban : Binds K dan ["pen", "deep"] [] := by
    obtain ⟨oc, od, kV, doc, pm, an, cdv, ct, osl, rfl, _, _⟩ := Fan.ex
    exact Binds.all fun us hl => match us, hl with | [_, _], _ => rfl
  have bto : Binds K dto ["value"] [] := by
    obtain ⟨oc, od, kV, doc, pm, an, cdv, ct, osl, rfl, _, _⟩ := Fto.ex
    exact Binds.all fun us hl => match us, hl with | [_], _ => rfl
  have blw : Binds K dlw ["script"] [] := by
    obtain ⟨oc, od, kV, doc, pm, an, cdv, ct, osl, rfl, _, _⟩ := Flw.ex
    exact Binds.all fun us hl => match us, hl with | [_], _ => rfl
  have gpb : Binds K dpb ["self"] [] := by
    obtain ⟨oc, od, kV, doc, pm, an, cdv, ct, osl, rfl, _, _⟩ := Fpb.ex
    exact Binds.all fun us hl => match us, hl with | [_], _ => rfl
  have gpe : Binds K dpe ["self", "other"] [] := by
    obtain ⟨oc, od, kV, doc, pm, an, cdv, ct, osl, rfl, _, _⟩ := Fpe.ex
    exact Binds.all fun us hl => match us, hl with | [_, _], _ => rfl
  have gdb : Binds K ddb ["self"] [] := by
    obtain ⟨oc, od, kV, doc, pm, an, cdv, ct, osl, rfl, _, _⟩ := Fdb.ex
    exact Binds.all fun us hl => match us, hl with | [_], _ => rfl
  have gct : Binds K dct ["self"] [] := by
    obtain ⟨oc, od, kV, doc, pm, an, cdv, ct, osl, rfl, _, _⟩ := Fct.ex
    exact Binds.all fun us hl => match us, hl with | [_], _ => rfl
  have T : SupX.SupTxt P K mg := ⟨top, B.sup, mt.op⟩
  have pP := xP.pcls mt jpe
  have pD := xD.pcls mt jpe
  have pdies := xdies.pcls mt jpe
  have plives := xlives.pcls mt jpe
  have pboth := xboth.pcls mt jpe
  have punmet := xunmet.pcls mt jpe
  have pdeaths := xdeaths.pcls mt jpe
  have pfreed := xfreed.pcls mt jpe
  have ptorn := xtorn.pcls mt jpe
  have pneeded := xneeded.pcls mt jpe
  have N : DrawN K mg fdw fpk ddw dpk := ⟨B, Fdw, bdw, PySem.W.mg_of X G adw, Fpk, bpk, PySem.W.mg_of X G apk⟩
  have LB : ∀ (s : Shared) (u : Value), BindsTo s dlw ⟨[u], []⟩ [("script", u)] := by
    obtain ⟨oc, od, kV, doc, pm, an, cdv, ct, osl, rfl, _, _⟩ := Flw.ex
    exact fun s u => .of_eq rfl
  refine ⟨dlw, ⟨cdies, clives, cboth, cunmet, cdeaths, cfreed, ctorn, cneeded, cP, cD, mpe, mpb, mdb⟩, Flw, LB, fun base _ _ => ?_⟩
  have GP : FnR P w K mg base CX0 5 mpi (spPInit K 2) := ok_pinit Fpi B Ffx bfx (PySem.W.mg_of X G afx) 2
  have qdies : PaperC P w K mg base cP mpe cdies "Dies" "dies" ["run", "rows"] := ⟨⟨_, _, ⟨xdies.mks, ydies.init, ydies.fn, xdies.kc⟩, ok_dies Sdies T (xdies.subc ydies typ fni) ndies0 ndies1 2 GP, (bd_dies Sdies).1, (bd_dies Sdies).2⟩, PySem.W.mg_of X G adies, pdies⟩
  have qlives : PaperC P w K mg base cP mpe clives "Lives" "lives" ["run", "rows"] := ⟨⟨_, _, ⟨xlives.mks, ylives.init, ylives.fn, xlives.kc⟩, ok_lives Slives T (xlives.subc ylives typ fni) nlives0 nlives1 2 GP, (bd_lives Slives).1, (bd_lives Slives).2⟩, PySem.W.mg_of X G alives, plives⟩
  have qboth : PaperC P w K mg base cP mpe cboth "Both" "both" ["run", "other"] := ⟨⟨_, _, ⟨xboth.mks, yboth.init, yboth.fn, xboth.kc⟩, ok_both Sboth T (xboth.subc yboth typ fni) nboth0 nboth1 2 GP, (bd_both Sboth).1, (bd_both Sboth).2⟩, PySem.W.mg_of X G aboth, pboth⟩
  have qunmet : PaperC P w K mg base cP mpe cunmet "Unmet" "unmet" ["rows"] := ⟨⟨_, _, ⟨xunmet.mks, yunmet.init, yunmet.fn, xunmet.kc⟩, ok_unmet Sunmet T (xunmet.subc yunmet typ fni) nunmet0 2 GP, (bd_unmet Sunmet).1, (bd_unmet Sunmet).2⟩, PySem.W.mg_of X G aunmet, punmet⟩
  have qdeaths : PaperC P w K mg base cP mpe cdeaths "Deaths" "deaths" ["spots", "rows"] := ⟨⟨_, _, ⟨xdeaths.mks, ydeaths.init, ydeaths.fn, xdeaths.kc⟩, ok_deaths Sdeaths T (xdeaths.subc ydeaths typ fni) ndeaths0 ndeaths1 2 GP, (bd_deaths Sdeaths).1, (bd_deaths Sdeaths).2⟩, PySem.W.mg_of X G adeaths, pdeaths⟩
  have qfreed : PaperC P w K mg base cP mpe cfreed "Freed" "freed" ["frees", "rows"] := ⟨⟨_, _, ⟨xfreed.mks, yfreed.init, yfreed.fn, xfreed.kc⟩, ok_freed Sfreed T (xfreed.subc yfreed typ fni) nfreed0 nfreed1 2 GP, (bd_freed Sfreed).1, (bd_freed Sfreed).2⟩, PySem.W.mg_of X G afreed, pfreed⟩
  have qtorn : PaperC P w K mg base cP mpe ctorn "Torn" "torn" ["shape", "run", "others"] := ⟨⟨_, _, ⟨xtorn.mks, ytorn.init, ytorn.fn, xtorn.kc⟩, ok_torn Storn T (xtorn.subc ytorn typ fni) ntorn0 ntorn1 ntorn2 2 GP, (bd_torn Storn).1, (bd_torn Storn).2⟩, PySem.W.mg_of X G atorn, ptorn⟩
  have qneeded : PaperC P w K mg base cP mpe cneeded "Needed" "needed" ["torn", "freed"] := ⟨⟨_, _, ⟨xneeded.mks, yneeded.init, yneeded.fn, xneeded.kc⟩, ok_needed Sneeded T (xneeded.subc yneeded typ fni) nneeded0 nneeded1 2 GP, (bd_needed Sneeded).1, (bd_needed Sneeded).2⟩, PySem.W.mg_of X G aneeded, pneeded⟩
  refine { bl := B, pen := ⟨_, _, ok_pen Fpn B, bpn, PySem.W.mg_of X G apn, Fpn.kp⟩, any := ⟨_, _, ok_any Fan ban (PySem.W.mg_of X G aan) N 2 (by decide), ban, PySem.W.mg_of X G aan, Fan.kp⟩, told := ⟨_, _, ok_told Fto B bto (PySem.W.mg_of X G ato) 2, bto, PySem.W.mg_of X G ato, Fto.kp⟩, eqs := ⟨_, ok_peq Fpe B Fal bal (PySem.W.mg_of X G aal) (PySem.W.mg_of X G aP) 4 (by decide), gpe⟩, pbs := ⟨_, ok_pbool Fpb, gpb⟩, dbs := ⟨_, ok_dbool Fdb, gdb⟩, dies := qdies, lives := qlives, both := qboth, unmet := qunmet, deaths := qdeaths, freed := qfreed, torn := qtorn, needed := qneeded, kin := ?_, lst := w5, star := ⟨mpi, ⟨xP.mks, bpi, jpi, xP.kc⟩, ⟨xD.mks, bdi, jpi, xD.kc⟩, GP, PySem.W.mg_of X G aP, PySem.W.mg_of X G aD⟩, pcP := pP, pcD := pD, subs := ⟨u1, u2, u3, u4⟩, kits := ⟨w1, w2, w3, w4⟩, count := ⟨mct, _, ok_count Fct B, gct, ⟨bct, jct, kct⟩⟩ }
  intro r hr
  unfold rsOf at hr
  simp only [List.mem_cons, List.not_mem_nil, or_false] at hr
  rcases hr with rfl | rfl | rfl | rfl | rfl | rfl | rfl | rfl
  · refine ⟨⟨pdies, ⟨odies, jpb⟩, fun C' hC => ?_⟩, fun a ha => ?_⟩
    · simp only [List.mem_cons, List.not_mem_nil, or_false] at hC
      rcases hC with rfl | rfl | rfl | rfl | rfl | rfl | rfl | rfl
      all_goals assumption
    · simp only [List.mem_cons, List.not_mem_nil, or_false] at ha
      rcases ha with rfl | rfl
      all_goals assumption
  · refine ⟨⟨plives, ⟨olives, jdb⟩, fun C' hC => ?_⟩, fun a ha => ?_⟩
    · simp only [List.mem_cons, List.not_mem_nil, or_false] at hC
      rcases hC with rfl | rfl | rfl | rfl | rfl | rfl | rfl | rfl
      all_goals assumption
    · simp only [List.mem_cons, List.not_mem_nil, or_false] at ha
      rcases ha with rfl | rfl
      all_goals assumption
  · refine ⟨⟨pboth, ⟨oboth, jdb⟩, fun C' hC => ?_⟩, fun a ha => ?_⟩
    · simp only [List.mem_cons, List.not_mem_nil, or_false] at hC
      rcases hC with rfl | rfl | rfl | rfl | rfl | rfl | rfl | rfl
      all_goals assumption
    · simp only [List.mem_cons, List.not_mem_nil, or_false] at ha
      rcases ha with rfl | rfl
      all_goals assumption
  · refine ⟨⟨punmet, ⟨ounmet, jdb⟩, fun C' hC => ?_⟩, fun a ha => ?_⟩
    · simp only [List.mem_cons, List.not_mem_nil, or_false] at hC
      rcases hC with rfl | rfl | rfl | rfl | rfl | rfl | rfl | rfl
      all_goals assumption
    · simp only [List.mem_cons, List.not_mem_nil, or_false] at ha
      subst ha
      all_goals assumption
  · refine ⟨⟨pdeaths, ⟨odeaths, jpb⟩, fun C' hC => ?_⟩, fun a ha => ?_⟩
    · simp only [List.mem_cons, List.not_mem_nil, or_false] at hC
      rcases hC with rfl | rfl | rfl | rfl | rfl | rfl | rfl | rfl
      all_goals assumption
    · simp only [List.mem_cons, List.not_mem_nil, or_false] at ha
      rcases ha with rfl | rfl
      all_goals assumption
  · refine ⟨⟨pfreed, ⟨ofreed, jpb⟩, fun C' hC => ?_⟩, fun a ha => ?_⟩
    · simp only [List.mem_cons, List.not_mem_nil, or_false] at hC
      rcases hC with rfl | rfl | rfl | rfl | rfl | rfl | rfl | rfl
      all_goals assumption
    · simp only [List.mem_cons, List.not_mem_nil, or_false] at ha
      rcases ha with rfl | rfl
      all_goals assumption
  · refine ⟨⟨ptorn, ⟨otorn, jdb⟩, fun C' hC => ?_⟩, fun a ha => ?_⟩
    · simp only [List.mem_cons, List.not_mem_nil, or_false] at hC
      rcases hC with rfl | rfl | rfl | rfl | rfl | rfl | rfl | rfl
      all_goals assumption
    · simp only [List.mem_cons, List.not_mem_nil, or_false] at ha
      rcases ha with rfl | rfl | rfl
      all_goals assumption
  · refine ⟨⟨pneeded, ⟨oneeded, jpb⟩, fun C' hC => ?_⟩, fun a ha => ?_⟩
    · simp only [List.mem_cons, List.not_mem_nil, or_false] at hC
      rcases hC with rfl | rfl | rfl | rfl | rfl | rfl | rfl | rfl
      all_goals assumption
    · simp only [List.mem_cons, List.not_mem_nil, or_false] at ha
      rcases ha with rfl | rfl
      all_goals assumption
end P45

open PySem PySem.W PyProof.Rows in
set_option maxRecDepth 100000 in
set_option maxHeartbeats 0 in
theorem PySem.Challenge.cw_freedbyhand_k45_papers_of_any_values_holds : PySem.Challenge.rw_freedbyhand_k45_papers_of_any_values.Holds := by
  w_on; o_law; k_head; (case hw => w_witness2)
  k_fill
  refine P45.walk45 (l := PySem.Challenge.rw_freedbyhand_k45_papers_of_any_values) rfl rfl (fun w h Y => PySem.W.kIn_of Y) ?F
  case F =>
    intro w mg fa h KX G hmg
    refine' P45.all45 KX G hmg ?afx ?aal ?apn ?adw ?apk ?aan ?ato ?alw ?aP ?aD ?adies ?alives ?aboth ?aunmet ?adeaths ?afreed ?atorn ?aneeded ?bpi ?bpb ?bpe ?bdb ?bdi ?bct ?Ffx ?Fal ?Fpn ?Fdw ?Fpk ?Fan ?Fto ?Flw ?Fpi ?Fpb ?Fpe ?Fdb ?Fct ?jpi ?jpb ?jpe ?jdb ?jct ?typ ?fni ?mt ?xP ?xD ?xdies ?xlives ?xboth ?xunmet ?xdeaths ?xfreed ?xtorn ?xneeded ?ydies ?ylives ?yboth ?yunmet ?ydeaths ?yfreed ?ytorn ?yneeded ?Sdies ?Slives ?Sboth ?Sunmet ?Sdeaths ?Sfreed ?Storn ?Sneeded ?odies ?olives ?oboth ?ounmet ?odeaths ?ofreed ?otorn ?oneeded ?ndies0 ?ndies1 ?nlives0 ?nlives1 ?nboth0 ?nboth1 ?nunmet0 ?ndeaths0 ?ndeaths1 ?nfreed0 ?nfreed1 ?ntorn0 ?ntorn1 ?ntorn2 ?nneeded0 ?nneeded1 ?vdiesdies ?vdieslives ?vdiesboth ?vdiesunmet ?vdiesdeaths ?vdiesfreed ?vdiestorn ?vdiesneeded ?vlivesdies ?vliveslives ?vlivesboth ?vlivesunmet ?vlivesdeaths ?vlivesfreed ?vlivestorn ?vlivesneeded ?vbothdies ?vbothlives ?vbothboth ?vbothunmet ?vbothdeaths ?vbothfreed ?vbothtorn ?vbothneeded ?vunmetdies ?vunmetlives ?vunmetboth ?vunmetunmet ?vunmetdeaths ?vunmetfreed ?vunmettorn ?vunmetneeded ?vdeathsdies ?vdeathslives ?vdeathsboth ?vdeathsunmet ?vdeathsdeaths ?vdeathsfreed ?vdeathstorn ?vdeathsneeded ?vfreeddies ?vfreedlives ?vfreedboth ?vfreedunmet ?vfreeddeaths ?vfreedfreed ?vfreedtorn ?vfreedneeded ?vtorndies ?vtornlives ?vtornboth ?vtornunmet ?vtorndeaths ?vtornfreed ?vtorntorn ?vtornneeded ?vneededdies ?vneededlives ?vneededboth ?vneededunmet ?vneededdeaths ?vneededfreed ?vneededtorn ?vneededneeded ?u1 ?u2 ?u3 ?u4 ?w1 ?w2 ?w3 ?w4 ?w5 ?kct ?top ?zisinstance ?zlist ?ztuple ?zlen ?zall ?zzip ?zbool ?zint ?zrange ?zrepr ?zenumerate ?zsuper
    (case afx => k_is)
    (case aal => k_is)
    (case apn => k_is)
    (case adw => k_is)
    (case apk => k_is)
    (case aan => k_is)
    (case ato => k_is)
    (case alw => k_is)
    (case aP => k_is)
    (case aD => k_is)
    (case adies => k_is)
    (case alives => k_is)
    (case aboth => k_is)
    (case aunmet => k_is)
    (case adeaths => k_is)
    (case afreed => k_is)
    (case atorn => k_is)
    (case aneeded => k_is)
    (case bpi => k_is)
    (case bpb => k_is)
    (case bpe => k_is)
    (case bdb => k_is)
    (case bdi => k_is)
    (case bct => k_is)
    (case Ffx => refine' ⟨_, L2.fun_mk ?l ?c ?k⟩; (case l => k_is); (case c => k_is); (case k => k_is))
    (case Fal => refine' ⟨_, L2.fun_mk ?l ?c ?k⟩; (case l => k_is); (case c => k_is); (case k => k_is))
    (case Fpn => refine' ⟨_, L2.fun_mk ?l ?c ?k⟩; (case l => k_is); (case c => k_is); (case k => k_is))
    (case Fdw => refine' ⟨_, L2.fun_mk ?l ?c ?k⟩; (case l => k_is); (case c => k_is); (case k => k_is))
    (case Fpk => refine' ⟨_, L2.fun_mk ?l ?c ?k⟩; (case l => k_is); (case c => k_is); (case k => k_is))
    (case Fan => refine' ⟨_, L2.fun_mk ?l ?c ?k⟩; (case l => k_is); (case c => k_is); (case k => k_is))
    (case Fto => refine' ⟨_, L2.fun_mk ?l ?c ?k⟩; (case l => k_is); (case c => k_is); (case k => k_is))
    (case Flw => refine' ⟨_, L2.fun_mk ?l ?c ?k⟩; (case l => k_is); (case c => k_is); (case k => k_is))
    (case Fpi => refine' ⟨_, L2.fun_mk ?l ?c ?k⟩; (case l => k_is); (case c => k_is); (case k => k_is))
    (case Fpb => refine' ⟨_, L2.fun_mk ?l ?c ?k⟩; (case l => k_is); (case c => k_is); (case k => k_is))
    (case Fpe => refine' ⟨_, L2.fun_mk ?l ?c ?k⟩; (case l => k_is); (case c => k_is); (case k => k_is))
    (case Fdb => refine' ⟨_, L2.fun_mk ?l ?c ?k⟩; (case l => k_is); (case c => k_is); (case k => k_is))
    (case Fct => refine' ⟨_, L2.fun_mk ?l ?c ?k⟩; (case l => k_is); (case c => k_is); (case k => k_is))
    (case jpi => k_is)
    (case jpb => k_is)
    (case jpe => k_is)
    (case jdb => k_is)
    (case jct => k_is)
    (case typ => k_is)
    (case fni => k_is)
    (case mt => refine' ⟨?o1, ?o2, ?o3⟩; (case o1 => k_is); (case o2 => k_is); (case o3 => k_is))
    (case xP => refine' ⟨P45.name_mk ?n1 ?n2, ?p1, ?p2, ?p3, ?p4, ?p5, ?p6, ?p7, ?p8, ?p9, ?p10, ?p11, ?p12, ?p13, ?p14⟩; (case n1 => k_is); (case n2 => rfl); (case p1 => k_is); (case p2 => k_is); (case p3 => k_is); (case p4 => k_is); (case p5 => k_is); (case p6 => k_is); (case p7 => k_is); (case p8 => k_is); (case p9 => k_is); (case p10 => k_is); (case p11 => k_is); (case p12 => k_is); (case p13 => k_is); (case p14 => kit_is))
    (case xD => refine' ⟨P45.name_mk ?n1 ?n2, ?p1, ?p2, ?p3, ?p4, ?p5, ?p6, ?p7, ?p8, ?p9, ?p10, ?p11, ?p12, ?p13, ?p14⟩; (case n1 => k_is); (case n2 => rfl); (case p1 => k_is); (case p2 => k_is); (case p3 => k_is); (case p4 => k_is); (case p5 => k_is); (case p6 => k_is); (case p7 => k_is); (case p8 => k_is); (case p9 => k_is); (case p10 => k_is); (case p11 => k_is); (case p12 => k_is); (case p13 => k_is); (case p14 => kit_is))
    (case xdies => refine' ⟨P45.name_mk ?n1 ?n2, ?p1, ?p2, ?p3, ?p4, ?p5, ?p6, ?p7, ?p8, ?p9, ?p10, ?p11, ?p12, ?p13, ?p14⟩; (case n1 => k_is); (case n2 => rfl); (case p1 => k_is); (case p2 => k_is); (case p3 => k_is); (case p4 => k_is); (case p5 => k_is); (case p6 => k_is); (case p7 => k_is); (case p8 => k_is); (case p9 => k_is); (case p10 => k_is); (case p11 => k_is); (case p12 => k_is); (case p13 => k_is); (case p14 => kit_is))
    (case xlives => refine' ⟨P45.name_mk ?n1 ?n2, ?p1, ?p2, ?p3, ?p4, ?p5, ?p6, ?p7, ?p8, ?p9, ?p10, ?p11, ?p12, ?p13, ?p14⟩; (case n1 => k_is); (case n2 => rfl); (case p1 => k_is); (case p2 => k_is); (case p3 => k_is); (case p4 => k_is); (case p5 => k_is); (case p6 => k_is); (case p7 => k_is); (case p8 => k_is); (case p9 => k_is); (case p10 => k_is); (case p11 => k_is); (case p12 => k_is); (case p13 => k_is); (case p14 => kit_is))
    (case xboth => refine' ⟨P45.name_mk ?n1 ?n2, ?p1, ?p2, ?p3, ?p4, ?p5, ?p6, ?p7, ?p8, ?p9, ?p10, ?p11, ?p12, ?p13, ?p14⟩; (case n1 => k_is); (case n2 => rfl); (case p1 => k_is); (case p2 => k_is); (case p3 => k_is); (case p4 => k_is); (case p5 => k_is); (case p6 => k_is); (case p7 => k_is); (case p8 => k_is); (case p9 => k_is); (case p10 => k_is); (case p11 => k_is); (case p12 => k_is); (case p13 => k_is); (case p14 => kit_is))
    (case xunmet => refine' ⟨P45.name_mk ?n1 ?n2, ?p1, ?p2, ?p3, ?p4, ?p5, ?p6, ?p7, ?p8, ?p9, ?p10, ?p11, ?p12, ?p13, ?p14⟩; (case n1 => k_is); (case n2 => rfl); (case p1 => k_is); (case p2 => k_is); (case p3 => k_is); (case p4 => k_is); (case p5 => k_is); (case p6 => k_is); (case p7 => k_is); (case p8 => k_is); (case p9 => k_is); (case p10 => k_is); (case p11 => k_is); (case p12 => k_is); (case p13 => k_is); (case p14 => kit_is))
    (case xdeaths => refine' ⟨P45.name_mk ?n1 ?n2, ?p1, ?p2, ?p3, ?p4, ?p5, ?p6, ?p7, ?p8, ?p9, ?p10, ?p11, ?p12, ?p13, ?p14⟩; (case n1 => k_is); (case n2 => rfl); (case p1 => k_is); (case p2 => k_is); (case p3 => k_is); (case p4 => k_is); (case p5 => k_is); (case p6 => k_is); (case p7 => k_is); (case p8 => k_is); (case p9 => k_is); (case p10 => k_is); (case p11 => k_is); (case p12 => k_is); (case p13 => k_is); (case p14 => kit_is))
    (case xfreed => refine' ⟨P45.name_mk ?n1 ?n2, ?p1, ?p2, ?p3, ?p4, ?p5, ?p6, ?p7, ?p8, ?p9, ?p10, ?p11, ?p12, ?p13, ?p14⟩; (case n1 => k_is); (case n2 => rfl); (case p1 => k_is); (case p2 => k_is); (case p3 => k_is); (case p4 => k_is); (case p5 => k_is); (case p6 => k_is); (case p7 => k_is); (case p8 => k_is); (case p9 => k_is); (case p10 => k_is); (case p11 => k_is); (case p12 => k_is); (case p13 => k_is); (case p14 => kit_is))
    (case xtorn => refine' ⟨P45.name_mk ?n1 ?n2, ?p1, ?p2, ?p3, ?p4, ?p5, ?p6, ?p7, ?p8, ?p9, ?p10, ?p11, ?p12, ?p13, ?p14⟩; (case n1 => k_is); (case n2 => rfl); (case p1 => k_is); (case p2 => k_is); (case p3 => k_is); (case p4 => k_is); (case p5 => k_is); (case p6 => k_is); (case p7 => k_is); (case p8 => k_is); (case p9 => k_is); (case p10 => k_is); (case p11 => k_is); (case p12 => k_is); (case p13 => k_is); (case p14 => kit_is))
    (case xneeded => refine' ⟨P45.name_mk ?n1 ?n2, ?p1, ?p2, ?p3, ?p4, ?p5, ?p6, ?p7, ?p8, ?p9, ?p10, ?p11, ?p12, ?p13, ?p14⟩; (case n1 => k_is); (case n2 => rfl); (case p1 => k_is); (case p2 => k_is); (case p3 => k_is); (case p4 => k_is); (case p5 => k_is); (case p6 => k_is); (case p7 => k_is); (case p8 => k_is); (case p9 => k_is); (case p10 => k_is); (case p11 => k_is); (case p12 => k_is); (case p13 => k_is); (case p14 => kit_is))
    (case ydies => refine' ⟨?s1, ?s2, ?s3, ?s4⟩; (case s1 => k_is); (case s2 => k_is); (case s3 => k_is); (case s4 => ks_is))
    (case ylives => refine' ⟨?s1, ?s2, ?s3, ?s4⟩; (case s1 => k_is); (case s2 => k_is); (case s3 => k_is); (case s4 => ks_is))
    (case yboth => refine' ⟨?s1, ?s2, ?s3, ?s4⟩; (case s1 => k_is); (case s2 => k_is); (case s3 => k_is); (case s4 => ks_is))
    (case yunmet => refine' ⟨?s1, ?s2, ?s3, ?s4⟩; (case s1 => k_is); (case s2 => k_is); (case s3 => k_is); (case s4 => ks_is))
    (case ydeaths => refine' ⟨?s1, ?s2, ?s3, ?s4⟩; (case s1 => k_is); (case s2 => k_is); (case s3 => k_is); (case s4 => ks_is))
    (case yfreed => refine' ⟨?s1, ?s2, ?s3, ?s4⟩; (case s1 => k_is); (case s2 => k_is); (case s3 => k_is); (case s4 => ks_is))
    (case ytorn => refine' ⟨?s1, ?s2, ?s3, ?s4⟩; (case s1 => k_is); (case s2 => k_is); (case s3 => k_is); (case s4 => ks_is))
    (case yneeded => refine' ⟨?s1, ?s2, ?s3, ?s4⟩; (case s1 => k_is); (case s2 => k_is); (case s3 => k_is); (case s4 => ks_is))
    (case Sdies => refine' P45.sup_mk ?t1 ?t2 ?t3 ?t4 ?t5 ?t6 ?t7 ?t8; (case t1 => k_is); (case t2 => k_is); (case t3 => k_is); (case t4 => k_is); (case t5 => rfl); (case t6 => decide +kernel); (case t7 => k_is); (case t8 => k_is))
    (case Slives => refine' P45.sup_mk ?t1 ?t2 ?t3 ?t4 ?t5 ?t6 ?t7 ?t8; (case t1 => k_is); (case t2 => k_is); (case t3 => k_is); (case t4 => k_is); (case t5 => rfl); (case t6 => decide +kernel); (case t7 => k_is); (case t8 => k_is))
    (case Sboth => refine' P45.sup_mk ?t1 ?t2 ?t3 ?t4 ?t5 ?t6 ?t7 ?t8; (case t1 => k_is); (case t2 => k_is); (case t3 => k_is); (case t4 => k_is); (case t5 => rfl); (case t6 => decide +kernel); (case t7 => k_is); (case t8 => k_is))
    (case Sunmet => refine' P45.sup_mk ?t1 ?t2 ?t3 ?t4 ?t5 ?t6 ?t7 ?t8; (case t1 => k_is); (case t2 => k_is); (case t3 => k_is); (case t4 => k_is); (case t5 => rfl); (case t6 => decide +kernel); (case t7 => k_is); (case t8 => k_is))
    (case Sdeaths => refine' P45.sup_mk ?t1 ?t2 ?t3 ?t4 ?t5 ?t6 ?t7 ?t8; (case t1 => k_is); (case t2 => k_is); (case t3 => k_is); (case t4 => k_is); (case t5 => rfl); (case t6 => decide +kernel); (case t7 => k_is); (case t8 => k_is))
    (case Sfreed => refine' P45.sup_mk ?t1 ?t2 ?t3 ?t4 ?t5 ?t6 ?t7 ?t8; (case t1 => k_is); (case t2 => k_is); (case t3 => k_is); (case t4 => k_is); (case t5 => rfl); (case t6 => decide +kernel); (case t7 => k_is); (case t8 => k_is))
    (case Storn => refine' P45.sup_mk ?t1 ?t2 ?t3 ?t4 ?t5 ?t6 ?t7 ?t8; (case t1 => k_is); (case t2 => k_is); (case t3 => k_is); (case t4 => k_is); (case t5 => rfl); (case t6 => decide +kernel); (case t7 => k_is); (case t8 => k_is))
    (case Sneeded => refine' P45.sup_mk ?t1 ?t2 ?t3 ?t4 ?t5 ?t6 ?t7 ?t8; (case t1 => k_is); (case t2 => k_is); (case t3 => k_is); (case t4 => k_is); (case t5 => rfl); (case t6 => decide +kernel); (case t7 => k_is); (case t8 => k_is))
    (case odies => k_is)
    (case olives => k_is)
    (case oboth => k_is)
    (case ounmet => k_is)
    (case odeaths => k_is)
    (case ofreed => k_is)
    (case otorn => k_is)
    (case oneeded => k_is)
    (case ndies0 => k_is)
    (case ndies1 => k_is)
    (case nlives0 => k_is)
    (case nlives1 => k_is)
    (case nboth0 => k_is)
    (case nboth1 => k_is)
    (case nunmet0 => k_is)
    (case ndeaths0 => k_is)
    (case ndeaths1 => k_is)
    (case nfreed0 => k_is)
    (case nfreed1 => k_is)
    (case ntorn0 => k_is)
    (case ntorn1 => k_is)
    (case ntorn2 => k_is)
    (case nneeded0 => k_is)
    (case nneeded1 => k_is)
    (case vdiesdies => k_is)
    (case vdieslives => k_is)
    (case vdiesboth => k_is)
    (case vdiesunmet => k_is)
    (case vdiesdeaths => k_is)
    (case vdiesfreed => k_is)
    (case vdiestorn => k_is)
    (case vdiesneeded => k_is)
    (case vlivesdies => k_is)
    (case vliveslives => k_is)
    (case vlivesboth => k_is)
    (case vlivesunmet => k_is)
    (case vlivesdeaths => k_is)
    (case vlivesfreed => k_is)
    (case vlivestorn => k_is)
    (case vlivesneeded => k_is)
    (case vbothdies => k_is)
    (case vbothlives => k_is)
    (case vbothboth => k_is)
    (case vbothunmet => k_is)
    (case vbothdeaths => k_is)
    (case vbothfreed => k_is)
    (case vbothtorn => k_is)
    (case vbothneeded => k_is)
    (case vunmetdies => k_is)
    (case vunmetlives => k_is)
    (case vunmetboth => k_is)
    (case vunmetunmet => k_is)
    (case vunmetdeaths => k_is)
    (case vunmetfreed => k_is)
    (case vunmettorn => k_is)
    (case vunmetneeded => k_is)
    (case vdeathsdies => k_is)
    (case vdeathslives => k_is)
    (case vdeathsboth => k_is)
    (case vdeathsunmet => k_is)
    (case vdeathsdeaths => k_is)
    (case vdeathsfreed => k_is)
    (case vdeathstorn => k_is)
    (case vdeathsneeded => k_is)
    (case vfreeddies => k_is)
    (case vfreedlives => k_is)
    (case vfreedboth => k_is)
    (case vfreedunmet => k_is)
    (case vfreeddeaths => k_is)
    (case vfreedfreed => k_is)
    (case vfreedtorn => k_is)
    (case vfreedneeded => k_is)
    (case vtorndies => k_is)
    (case vtornlives => k_is)
    (case vtornboth => k_is)
    (case vtornunmet => k_is)
    (case vtorndeaths => k_is)
    (case vtornfreed => k_is)
    (case vtorntorn => k_is)
    (case vtornneeded => k_is)
    (case vneededdies => k_is)
    (case vneededlives => k_is)
    (case vneededboth => k_is)
    (case vneededunmet => k_is)
    (case vneededdeaths => k_is)
    (case vneededfreed => k_is)
    (case vneededtorn => k_is)
    (case vneededneeded => k_is)
    (case u1 => k_is)
    (case u2 => decide)
    (case u3 => k_is)
    (case u4 => decide)
    (case w1 => kit_is)
    (case w2 => kit_is)
    (case w3 => kit_is)
    (case w4 => kit_is)
    (case w5 => kit_is)
    (case kct => k_is)
    (case top => decide +kernel)
    (case zisinstance => k_is)
    (case zlist => k_is)
    (case ztuple => k_is)
    (case zlen => k_is)
    (case zall => k_is)
    (case zzip => k_is)
    (case zbool => k_is)
    (case zint => k_is)
    (case zrange => k_is)
    (case zrepr => k_is)
    (case zenumerate => k_is)
    (case zsuper => k_is)
#print axioms PySem.Challenge.cw_freedbyhand_k45_papers_of_any_values_holds
