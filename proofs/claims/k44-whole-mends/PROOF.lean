import PyProof.Rows.All
import Wide.All
import OpenK.AllK
import Wide.FinOn
import HandS.ForMost
import HandS.Codes
import HandS.TupAny
import HandS.IsInst
import HandS.Property
import HandS.Star
import HandS.Defaults
import HandS.Style
import HandS.Strs
import HandS.Walk
import HandS.Head0
import HandS.Head1
import HandS.Head2
import HandS.HeadEnd
import HandS.HeadHook1
import HandS.HeadHook2
import KE.KDictKeyed
import KE.KDictWalk
import KE.GoesDict
import KE.SortData
import KE.KOpsOwn
import PySem.Challenge.RW_latehelm_k44_whole_mends_put_to_work
import HandS.SetFor
import HandS.TupSets
import KE.KDictList
import KE.DataMinMax
import HandS.SortKw
import KE.KRevSl
import KE.GoesMore
import KE.KEqDeep
/-! The plain law: plants, beliefs, next situations, what is kept; barring answers. No program in sight. -/
namespace LH
abbrev Mv := List (List (List Int))
abbrev Sit := Int × List Int
abbrev Tri := Int × Int × Int

/-- the answers of an order in a place -/
def ans (mv : Mv) (p o : Int) : List Int := ((mv[p.toNat]?).getD [])[o.toNat]?.getD []
/-- where things may stand behind a row -/
def aft (mv : Mv) : (Int → Prop) → List Int → Int → Prop
  | S, [] => S
  | S, o :: r => aft mv (fun x => ∃ p, S p ∧ x ∈ ans mv p o) r
abbrev stand (mv : Mv) (s : Sit) : Int → Prop := aft mv (fun x => x = s.1) s.2
def Clear (mv : Mv) (bad : List Int) (s : Sit) : Prop := ∀ x, stand mv s x → x ∉ bad
/-- the next situations: a beats late, b times lost -/
def Next (mv : Mv) (a b : Nat) (s : Sit) (o : Int) (t : Sit) : Prop :=
  ((s.2 ++ [o]).length ≤ a ∧ t = (s.1, s.2 ++ [o])) ∨
  (a < (s.2 ++ [o]).length ∧ ((∃ y, aft mv (fun x => x = s.1) ((s.2 ++ [o]).take ((s.2 ++ [o]).length - a)) y ∧ t = (y, (s.2 ++ [o]).drop ((s.2 ++ [o]).length - a))) ∨
    ((s.2 ++ [o]).length ≤ a + b ∧ t = (s.1, s.2 ++ [o]))))
def Kept (mv : Mv) (bad : List Int) (m : Int) (a b : Nat) (s : Sit) : Prop :=
  ∃ S : Sit → Prop, S s ∧ ∀ t, S t → Clear mv bad t ∧ ∃ o, 0 ≤ o ∧ o < m ∧ ∀ u, Next mv a b t o u → S u

/-- mv' has no answers that mv lacks -/
def Sub (mv' mv : Mv) : Prop := ∀ p o x, x ∈ ans mv' p o → x ∈ ans mv p o
theorem Sub.refl (mv : Mv) : Sub mv mv := fun _ _ _ h => h
theorem Sub.trans {a b c : Mv} (h : Sub a b) (k : Sub b c) : Sub a c := fun p o x q => k p o x (h p o x q)

theorem aft_mono {mv' mv : Mv} (h : Sub mv' mv) : ∀ (r : List Int) (S S' : Int → Prop), (∀ x, S' x → S x) → ∀ x, aft mv' S' r x → aft mv S r x
  | [], _, _, hs, x, q => hs x q
  | o :: r, S, S', hs, x, q => aft_mono h r _ _ (fun _ ⟨p, hp, hy⟩ => ⟨p, hs p hp, h p o _ hy⟩) x q
theorem Clear.mono {mv' mv : Mv} {bad : List Int} {s : Sit} (h : Sub mv' mv) (c : Clear mv bad s) : Clear mv' bad s := fun x q => c x (aft_mono h s.2 _ _ (fun _ z => z) x q)
theorem Next.mono {mv' mv : Mv} {a b : Nat} {s t : Sit} {o : Int} (h : Sub mv' mv) (n : Next mv' a b s o t) : Next mv a b s o t := by
  rcases n with n | ⟨n1, ⟨y, q, e⟩ | n2⟩
  · exact .inl n
  · exact .inr ⟨n1, .inl ⟨y, aft_mono h _ _ _ (fun _ z => z) y q, e⟩⟩
  · exact .inr ⟨n1, .inr n2⟩
theorem Kept.mono {mv' mv : Mv} {bad : List Int} {m : Int} {a b : Nat} {s : Sit} (h : Sub mv' mv) (k : Kept mv bad m a b s) : Kept mv' bad m a b s := by
  obtain ⟨S, hs, q⟩ := k
  refine ⟨S, hs, fun t ht => ?_⟩
  obtain ⟨c, o, h0, h1, hn⟩ := q t ht
  exact ⟨c.mono h, o, h0, h1, fun u hu => hn u (hu.mono h)⟩
theorem Kept.clear {mv : Mv} {bad : List Int} {m : Int} {a b : Nat} {s : Sit} (k : Kept mv bad m a b s) : Clear mv bad s := by
  obtain ⟨S, hs, q⟩ := k
  exact (q s hs).1
theorem Kept.step {mv : Mv} {bad : List Int} {m : Int} {a b : Nat} {s : Sit} (k : Kept mv bad m a b s) : ∃ o, 0 ≤ o ∧ o < m ∧ ∀ u, Next mv a b s o u → Kept mv bad m a b u := by
  obtain ⟨S, hs, q⟩ := k
  obtain ⟨_, o, h0, h1, hn⟩ := q s hs
  exact ⟨o, h0, h1, fun u hu => ⟨S, hn u hu, q⟩⟩

/-! ### barring one answer, putting one besides: the answers of p, o are l -/
def setAns (mv : Mv) (p o : Int) (l : List Int) : Mv := mv.modify p.toNat fun row => row.set o.toNat l
def rem (mv : Mv) (t : Tri) : Mv := setAns mv t.1 t.2.1 ((ans mv t.1 t.2.1).filter fun x => decide (x ≠ t.2.2))
/-- t is an answer of mv -/
def Has (mv : Mv) (t : Tri) : Prop := 0 ≤ t.1 ∧ 0 ≤ t.2.1 ∧ t.2.2 ∈ ans mv t.1 t.2.1
/-- .. that can be barred -/
def Can (mv : Mv) (t : Tri) : Prop := Has mv t ∧ 1 < (ans mv t.1 t.2.1).length

theorem ans_lt {mv : Mv} {p o x : Int} (h : x ∈ ans mv p o) : ∃ row, mv[p.toNat]? = some row ∧ ∃ l, row[o.toNat]? = some l ∧ x ∈ l := by
  unfold ans at h
  cases e : mv[p.toNat]? with
  | none => rw [e] at h; simp at h
  | some row =>
    rw [e] at h
    cases e2 : row[o.toNat]? with
    | none => simp only [Option.getD_some] at h; rw [e2] at h; simp at h
    | some l => exact ⟨row, rfl, l, e2, by simp only [Option.getD_some] at h; rw [e2] at h; simpa using h⟩

theorem ans_setAns (mv : Mv) (p o : Int) (l : List Int) (q r : Int) (hp : p.toNat < mv.length) (ho : ∀ row, mv[p.toNat]? = some row → o.toNat < row.length) :
    ans (setAns mv p o l) q r = if q.toNat = p.toNat ∧ r.toNat = o.toNat then l else ans mv q r := by
  unfold ans setAns
  rw [List.getElem?_modify]
  have hsome : mv[p.toNat]? = some mv[p.toNat] := List.getElem?_eq_getElem hp
  by_cases h1 : q.toNat = p.toNat
  · rw [h1, hsome]
    by_cases h2 : r.toNat = o.toNat
    · have h3 := ho _ hsome
      simp [h2, h3]
    · have h4 : ¬ o.toNat = r.toNat := fun e => h2 e.symm
      simp [h2, List.getElem?_set_ne h4]
  · have h4 : ¬ p.toNat = q.toNat := fun e => h1 e.symm
    simp [h1, h4]

end LH
set_option Elab.async false
set_option linter.all false
set_option maxRecDepth 100000
set_option maxHeartbeats 4000000
/-! Data of ints and tuples over the abstract heap; what stays. -/
namespace Lh
open PySem PySem.Spec PyProof.Rows L2

/-! ### what stays: tuples and instances -/
def Fix : HO → Prop
  | .tup _ => True
  | .ins _ _ _ => True
  | .own _ => True
  | _ => False
def Kp (H H' : Hp) : Prop := ∀ b o, H b = some o → Fix o → H' b = some o
theorem Kp.refl (H : Hp) : Kp H H := fun _ _ h _ => h
theorem Kp.trans {H H1 H2 : Hp} (a : Kp H H1) (b : Kp H1 H2) : Kp H H2 := fun c o h f => b c o (a c o h f) f
theorem Kp.of {H H' : Hp} (s : Same H H') : Kp H H' := fun b o h _ => s b o h
theorem Kp.new {H : Hp} {p : Addr} {o : HO} (h : H p = none) : Kp H (upd H p o) := fun b u e _ => by
  rw [upd_ne (ne_of_none e h)]
  exact e
theorem Kp.put {H : Hp} {p : Addr} {o u : HO} (h : H p = some u) (f : ¬ Fix u) : Kp H (upd H p o) := fun b v e g => by
  by_cases q : b = p
  · subst q
    rw [h] at e
    cases e
    exact (f g).elim
  · rw [upd_ne q]
    exact e
theorem Kp.lst {H : Hp} {p : Addr} {o : HO} {xs : List V} (h : H p = some (.lst xs)) : Kp H (upd H p o) := Kp.put h fun z => z
theorem same_new {H : Hp} {p : Addr} {o : HO} (h : H p = none) : Same H (upd H p o) := fun b u e => by
  rw [upd_ne (ne_of_none e h)]
  exact e
/-- an object that is newer than H0 is written -/
theorem same_put {H0 H : Hp} {p : Addr} {o : HO} (s : Same H0 H) (h : H0 p = none) : Same H0 (upd H p o) := fun b u e => by
  rw [upd_ne (ne_of_none e h)]
  exact s b u e
/-- all but the object at p stays -/
def Sbut (p : Addr) (H H' : Hp) : Prop := ∀ b o, b ≠ p → H b = some o → H' b = some o
theorem Sbut.refl (p : Addr) (H : Hp) : Sbut p H H := fun _ _ _ h => h
theorem Sbut.trans {p : Addr} {H H1 H2 : Hp} (a : Sbut p H H1) (b : Sbut p H1 H2) : Sbut p H H2 := fun c o n h => b c o n (a c o n h)
theorem Sbut.of {p : Addr} {H H' : Hp} (s : Same H H') : Sbut p H H' := fun b o _ h => s b o h
theorem Sbut.upd {p : Addr} {H : Hp} {o : HO} : Sbut p H (upd H p o) := fun b u n e => by
  rw [upd_ne n]
  exact e
theorem Sbut.kp {p : Addr} {H H' : Hp} {u : HO} (s : Sbut p H H') (h : H p = some u) (f : ¬ Fix u) : Kp H H' := fun b o e g => by
  by_cases q : b = p
  · subst q
    rw [h] at e
    cases e
    exact (f g).elim
  · exact s b o q e

theorem sqT_kp {K : PySem.W.Frag} {H H' : Hp} {a : Addr} {xs : List V} (k : Kp H H') (h : H a = some (.tup xs)) : H' a = some (.tup xs) := k a _ h True.intro

/-! ### data -/
/-- two lists, item by item -/
def All2 {α β : Type} (R : α → β → Prop) (xs : List α) (ys : List β) : Prop := xs.length = ys.length ∧ ∀ (i : Nat) (x : α) (y : β), xs[i]? = some x → ys[i]? = some y → R x y
theorem All2.mono {α β : Type} {R R' : α → β → Prop} {xs : List α} {ys : List β} (h : All2 R xs ys) (k : ∀ x y, R x y → R' x y) : All2 R' xs ys := ⟨h.1, fun i x y a b => k x y (h.2 i x y a b)⟩
theorem All2.nil {α β : Type} {R : α → β → Prop} : All2 R [] [] := ⟨rfl, fun i x y a _ => by simp at a⟩
theorem All2.cons {α β : Type} {R : α → β → Prop} {x : α} {y : β} {xs : List α} {ys : List β} (h : R x y) (t : All2 R xs ys) : All2 R (x :: xs) (y :: ys) := by
  refine ⟨by simp [t.1], fun i a b e1 e2 => ?_⟩
  cases i with
  | zero =>
    simp only [List.getElem?_cons_zero, Option.some.injEq] at e1 e2
    subst e1 e2
    exact h
  | succ i => exact t.2 i a b (by simpa using e1) (by simpa using e2)
theorem All2.snoc {α β : Type} {R : α → β → Prop} {x : α} {y : β} {xs : List α} {ys : List β} (t : All2 R xs ys) (h : R x y) : All2 R (xs ++ [x]) (ys ++ [y]) := by
  refine ⟨by simp [t.1], fun i a b e1 e2 => ?_⟩
  have l := t.1
  by_cases q : i < xs.length
  · rw [List.getElem?_append_left q] at e1
    rw [List.getElem?_append_left (by omega)] at e2
    exact t.2 i a b e1 e2
  · rw [List.getElem?_append_right (by omega)] at e1
    rw [List.getElem?_append_right (by omega)] at e2
    have e3 : i - xs.length = 0 := by
      have := (List.getElem?_eq_some_iff.mp e1).1
      simp at this
      omega
    rw [e3] at e1
    rw [show i - ys.length = 0 by omega] at e2
    simp only [List.getElem?_cons_zero, Option.some.injEq] at e1 e2
    subst e1 e2
    exact h
theorem All2.append {α β : Type} {R : α → β → Prop} {xs xs' : List α} {ys ys' : List β} (t : All2 R xs ys) (h : All2 R xs' ys') : All2 R (xs ++ xs') (ys ++ ys') := by
  refine ⟨by simp [t.1, h.1], fun i a b e1 e2 => ?_⟩
  have l := t.1
  by_cases q : i < xs.length
  · rw [List.getElem?_append_left q] at e1
    rw [List.getElem?_append_left (by omega)] at e2
    exact t.2 i a b e1 e2
  · rw [List.getElem?_append_right (by omega)] at e1
    rw [List.getElem?_append_right (by omega)] at e2
    rw [← l] at e2
    exact h.2 _ a b e1 e2
theorem All2.get {α β : Type} {R : α → β → Prop} {xs : List α} {ys : List β} (h : All2 R xs ys) {i : Nat} {x : α} (e : xs[i]? = some x) : ∃ y, ys[i]? = some y ∧ R x y := by
  have l := (List.getElem?_eq_some_iff.mp e).1
  have l2 : i < ys.length := by have := h.1; omega
  exact ⟨ys[i], List.getElem?_eq_getElem l2, h.2 i x _ e (List.getElem?_eq_getElem l2)⟩
theorem All2.get' {α β : Type} {R : α → β → Prop} {xs : List α} {ys : List β} (h : All2 R xs ys) {i : Nat} {y : β} (e : ys[i]? = some y) : ∃ x, xs[i]? = some x ∧ R x y := by
  have l := (List.getElem?_eq_some_iff.mp e).1
  have l2 : i < xs.length := by have := h.1; omega
  exact ⟨xs[i], List.getElem?_eq_getElem l2, h.2 i _ y (List.getElem?_eq_getElem l2) e⟩
theorem All2.mem {α β : Type} {R : α → β → Prop} {xs : List α} {ys : List β} (h : All2 R xs ys) {x : α} (m : x ∈ xs) : ∃ y ∈ ys, R x y := by
  obtain ⟨i, hi⟩ := List.mem_iff_getElem?.mp m
  obtain ⟨y, hy, r⟩ := h.get hi
  exact ⟨y, List.mem_of_getElem? hy, r⟩
theorem All2.mem' {α β : Type} {R : α → β → Prop} {xs : List α} {ys : List β} (h : All2 R xs ys) {y : β} (m : y ∈ ys) : ∃ x ∈ xs, R x y := by
  obtain ⟨i, hi⟩ := List.mem_iff_getElem?.mp m
  obtain ⟨x, hx, r⟩ := h.get' hi
  exact ⟨x, List.mem_of_getElem? hx, r⟩
theorem All2.take {α β : Type} {R : α → β → Prop} {xs : List α} {ys : List β} (h : All2 R xs ys) (n : Nat) : All2 R (xs.take n) (ys.take n) := by
  refine ⟨by simp [h.1], fun i x y a b => ?_⟩
  rw [List.getElem?_take] at a b
  split at a
  · rename_i q
    rw [if_pos q] at b
    exact h.2 i x y a b
  · cases a
theorem All2.cons_inv {α β : Type} {R : α → β → Prop} {y : β} {xs : List α} {ys : List β} (h : All2 R xs (y :: ys)) : ∃ x r, xs = x :: r ∧ R x y ∧ All2 R r ys := by
  cases xs with
  | nil => have := h.1; simp at this
  | cons x r =>
    refine ⟨x, r, rfl, h.2 0 x y rfl rfl, by have := h.1; simpa using this, fun i a b e1 e2 => h.2 (i + 1) a b (by simpa using e1) (by simpa using e2)⟩
theorem All2.nil_inv {α β : Type} {R : α → β → Prop} {xs : List α} (h : All2 R xs ([] : List β)) : xs = [] := by
  have := h.1
  exact List.length_eq_zero_iff.mp (by simpa using this)

/-- a tuple of ints that stands in the abstract heap -/
def IT (H : Hp) (v : V) (ns : List Int) : Prop := ∃ a, v = .ref a ∧ H a = some (.tup (ns.map V.int))
theorem IT.kp {H H' : Hp} {v : V} {ns : List Int} (k : Kp H H') (h : IT H v ns) : IT H' v ns := let ⟨a, e, q⟩ := h; ⟨a, e, k a _ q True.intro⟩
theorem map_int_inj : ∀ {a b : List Int}, a.map V.int = b.map V.int → a = b
  | [], [], _ => rfl
  | [], _ :: _, e => by simp at e
  | _ :: _, [], e => by simp at e
  | x :: xs, y :: ys, e => by
    rw [List.map_cons, List.map_cons] at e
    injection e with e1 e2
    injection e1 with e1
    rw [e1, map_int_inj e2]
theorem IT.inj {H : Hp} {v : V} {ns ms : List Int} (h : IT H v ns) (k : IT H v ms) : ns = ms := by
  obtain ⟨a, rfl, q⟩ := h
  obtain ⟨b, e, r⟩ := k
  cases e
  have z := Option.some.inj (q.symm.trans r)
  injection z with z
  exact map_int_inj z
/-- a situation -/
abbrev Sit := Int × List Int
def ST (H : Hp) (v : V) (s : Sit) : Prop := ∃ a r, v = .ref a ∧ H a = some (.tup [.int s.1, r]) ∧ IT H r s.2
theorem ST.kp {H H' : Hp} {v : V} {s : Sit} (k : Kp H H') (h : ST H v s) : ST H' v s := let ⟨a, r, e, q, t⟩ := h; ⟨a, r, e, k a _ q True.intro, t.kp k⟩
end Lh
set_option Elab.async false
set_option linter.all false
set_option maxRecDepth 100000
set_option maxHeartbeats 4000000
/-! Readings that are easier to answer: by consequence. -/
namespace Lh
open PySem PySem.Spec PyProof.Rows L2
section
variable {X : Cx} {e : Expr} {es : List Expr} {st : Stmt}
/-- the reading's monotone closure -/
def mTE (t : TE) : TE := fun σ H Q => ∃ Q0 : VK, t σ H Q0 ∧ ∀ v H', Q0 v H' → Q v H'
def mTT (t : TT) : TT := fun σ H Q => ∃ Q0 : Bool → Hp → Prop, t σ H Q0 ∧ ∀ v H', Q0 v H' → Q v H'
def mTA (t : TA) : TA := fun σ H Q => ∃ Q0 : List V → Hp → Prop, t σ H Q0 ∧ ∀ v H', Q0 v H' → Q v H'
theorem mTE.mk {t : TE} {σ : L2.St} {H : Hp} {Q : VK} (h : t σ H Q) : mTE t σ H Q := ⟨Q, h, fun _ _ q => q⟩
theorem mTT.mk {t : TT} {σ : L2.St} {H : Hp} {Q : Bool → Hp → Prop} (h : t σ H Q) : mTT t σ H Q := ⟨Q, h, fun _ _ q => q⟩
theorem mTE.imp {t : TE} {σ : L2.St} {H : Hp} {Q Q' : VK} (h : mTE t σ H Q) (k : ∀ v H', Q v H' → Q' v H') : mTE t σ H Q' := let ⟨Q0, a, b⟩ := h; ⟨Q0, a, fun v H' q => k v H' (b v H' q)⟩
theorem mTT.imp {t : TT} {σ : L2.St} {H : Hp} {Q Q' : Bool → Hp → Prop} (h : mTT t σ H Q) (k : ∀ v H', Q v H' → Q' v H') : mTT t σ H Q' := let ⟨Q0, a, b⟩ := h; ⟨Q0, a, fun v H' q => k v H' (b v H' q)⟩
theorem pe_m {t : TE} (h : PE X e t) : PE X e (mTE t) := ⟨fun pins s σ H Q I ⟨Q0, a, b⟩ => thn (h.run pins s σ H Q0 I a) fun _ _ ⟨v, H', I', r, q⟩ => ⟨v, H', I', r, b v H' q⟩⟩
theorem pt_m {t : TT} (h : PT X e t) : PT X e (mTT t) := ⟨fun pins s σ H Q I ⟨Q0, a, b⟩ => thn (h.run pins s σ H Q0 I a) fun _ _ ⟨H', I', q⟩ => ⟨H', I', b _ H' q⟩⟩
theorem pa_m {t : TA} (h : PA X es t) : PA X es (mTA t) := ⟨fun pos pins s σ H Q I ⟨Q0, a, b⟩ => thn (h.run pos pins s σ H Q0 I a) fun _ _ ⟨v, H', I', r, q⟩ => ⟨v, H', I', r, b v H' q⟩⟩
theorem pts_m {ifs : List Expr} {t : TT} (h : PTs X ifs t) : PTs X ifs (mTT t) := ⟨fun pins s σ H Q I ⟨Q0, a, b⟩ => thn (h.run pins s σ H Q0 I a) fun _ _ ⟨H', I', q⟩ => ⟨H', I', b _ H' q⟩⟩
theorem pe_imp {t t' : TE} (k : ∀ σ H Q, t' σ H Q → t σ H Q) (h : PE X e t) : PE X e t' := ⟨fun pins s σ H Q I q => h.run pins s σ H Q I (k σ H Q q)⟩
theorem pt_imp {t t' : TT} (k : ∀ σ H Q, t' σ H Q → t σ H Q) (h : PT X e t) : PT X e t' := ⟨fun pins s σ H Q I q => h.run pins s σ H Q I (k σ H Q q)⟩
theorem pa_imp {t t' : TA} (k : ∀ σ H Q, t' σ H Q → t σ H Q) (h : PA X es t) : PA X es t' := ⟨fun pos pins s σ H Q I q => h.run pos pins s σ H Q I (k σ H Q q)⟩
theorem ps_imp {t t' : TS} (k : ∀ D σ H, t' D σ H → t D σ H) (h : PS X st t) : PS X st t' := ⟨fun pins s σ H D I q => h.run pins s σ H D I (k D σ H q)⟩
end

/-! ### new tuples, new lists: the heap behind them by what stays -/
def cTup (t : TA) : TE := fun σ H Q => t σ H fun xs H1 => xs.length ≤ 1000 ∧ ∀ p H2, H1 p = none → Same H1 H2 → H2 p = some (.tup xs) → Q (.ref p) H2
def cLst (t : TA) : TE := fun σ H Q => t σ H fun xs H1 => xs.length ≤ 1000 ∧ ∀ p H2, H1 p = none → Same H1 H2 → H2 p = some (.lst xs) → Q (.ref p) H2
section
variable {X : Cx} {es : List Expr} {pos : Pos}
theorem line1000 {n : Nat} (h : n ≤ 1000) : n ≤ sizeLine := Nat.le_of_lt (small1000 h)
theorem ce_tup {t : TA} {x1} (h : PA X es t) : PE X (.Tuple es x1 pos) (cTup t) :=
  pe_imp (t := tTup (mTA t)) (fun σ H Q q => ⟨_, q, fun xs H1 z => ⟨line1000 z.1, fun p hp => z.2 p _ hp (same_new hp) upd_same⟩⟩) (pe_tup (pa_m h))
theorem ce_lst {t : TA} (h : PA X es t) : PE X (.List es pos) (cLst t) :=
  pe_imp (t := tLst (mTA t)) (fun σ H Q q => ⟨_, q, fun xs H1 z => ⟨line1000 z.1, fun p hp => z.2 p _ hp (same_new hp) upd_same⟩⟩) (pe_lst (pa_m h))
end

/-! ### comprehensions -/
theorem wipe_at (σ : L2.St) : ∀ (vs : List Nat) (j : Nat), j ∈ vs → j < σ.length → (wipe σ vs)[j]? = some none
  | v :: vs, j, h, hl => by
    unfold wipe
    by_cases e : v = j
    · subst e
      rw [List.getElem?_set_self (by rw [wipe_length]; exact hl)]
    · rw [List.getElem?_set_ne e]
      refine wipe_at σ vs j ?_ hl
      rcases List.mem_cons.mp h with z | z
      · exact (e z.symm).elim
      · exact z
theorem wipe_out' {σ : L2.St} {i : Nat} : ∀ {vs : List Nat}, i ∉ vs → (wipe σ vs)[i]? = σ[i]?
  | [], _ => rfl
  | v :: vs, h => by
    unfold wipe
    rw [List.getElem?_set_ne (fun e => h (by rw [e]; exact List.mem_cons_self))]
    exact wipe_out' fun m => h (List.mem_cons_of_mem _ m)
theorem wipe_set {σ : L2.St} {vs : List Nat} {i : Nat} {y : Option V} (hi : i ∈ vs) : wipe ((wipe σ vs).set i y) vs = wipe σ vs := by
  refine List.ext_getElem? fun j => ?_
  by_cases hj : j ∈ vs
  · by_cases hl : j < σ.length
    · rw [wipe_at _ vs j hj (by rw [List.length_set, wipe_length]; exact hl), wipe_at _ vs j hj hl]
    · rw [List.getElem?_eq_none (by rw [wipe_length, List.length_set, wipe_length]; omega), List.getElem?_eq_none (by rw [wipe_length]; omega)]
  · rw [wipe_out' hj, List.getElem?_set_ne (fun e : i = j => hj (by rw [← e]; exact hi))]

/-- where a comprehension's items come from: a list or a tuple -/
inductive Src | l | t
def Src.At (k : Src) (K : PySem.W.Frag) (H : Hp) (a : Addr) (xs : List V) : Prop := match k with
  | .l => SqL K H a xs
  | .t => SqT K H a xs
theorem sqT_same {K : PySem.W.Frag} {H H' : Hp} {a : Addr} {xs : List V} (e : Same H H') (h : SqT K H a xs) : SqT K H' a xs := by
  rcases h with (h | ⟨o, h⟩) | h
  · exact .inl (.inl (e _ _ h))
  · exact .inl (.inr ⟨o, e _ _ h⟩)
  · exact .inr h
theorem Src.At.same {k : Src} {K : PySem.W.Frag} {H H' : Hp} {a : Addr} {xs : List V} (e : Same H H') (h : k.At K H a xs) : k.At K H' a xs := by
  cases k with
  | l => exact e.seq h
  | t => exact sqT_same e h
/-- what a turn asks of the invariant J (turn, made so far, heap), D the new list -/
def lcTurn (tt : TT) (te : TE) (i : Nat) (D : Addr) (J : Nat → List V → Hp → Prop) (σ : L2.St) (xs : List V) : Prop :=
  ∀ k x H acc, xs[k]? = some x → J k acc H → H D = some (.lst acc) → tt (σ.set i (some x)) H fun b H3 =>
    if b = true then te (σ.set i (some x)) H3 fun y H4 => H4 D = some (.lst acc) ∧ J (k + 1) (acc ++ [y]) (upd H4 D (.lst (acc ++ [y]))) else H3 D = some (.lst acc) ∧ J (k + 1) acc H3
/-- a comprehension whose turns may write: the list's own address is known -/
def cLcG (sk : Src) (K : PySem.W.Frag) (ts : TE) (i : Nat) (tt : TT) (te : TE) (vs : List Nat) : TE := fun σ H Q => ts σ H fun v H1 => ∃ a xs, v = .ref a ∧ sk.At K H1 a xs ∧ xs.length ≤ 1000 ∧ i ∈ vs ∧ ∀ D, H1 D = none →
  ∃ J : Nat → List V → Hp → Prop, J 0 [] (upd H1 D (.lst [])) ∧ (∀ k acc H, J k acc H → sk.At K H a xs) ∧ lcTurn tt te i D J (wipe σ vs) xs ∧ ∀ acc H, H D = some (.lst acc) → J xs.length acc H → Q (.ref D) H
/-- a comprehension whose turns only make new objects -/
def cLc (sk : Src) (K : PySem.W.Frag) (ts : TE) (i : Nat) (tt : TT) (te : TE) (vs : List Nat) : TE := fun σ H Q => ts σ H fun v H1 => ∃ a xs, v = .ref a ∧ sk.At K H1 a xs ∧ xs.length ≤ 1000 ∧ i ∈ vs ∧
  ∃ R : Nat → List V → Hp → Prop, R 0 [] H1 ∧ (∀ k acc H H', Kp H H' → R k acc H → R k acc H') ∧
    (∀ k x H acc, xs[k]? = some x → R k acc H → Same H1 H → tt ((wipe σ vs).set i (some x)) H fun b H3 =>
      if b = true then te ((wipe σ vs).set i (some x)) H3 fun y H4 => Same H H4 ∧ R (k + 1) (acc ++ [y]) H4 else Same H H3 ∧ R (k + 1) acc H3) ∧
    ∀ D acc H, H1 D = none → Same H1 H → H D = some (.lst acc) → R xs.length acc H → Q (.ref D) H
theorem cLc_G {sk : Src} {K : PySem.W.Frag} {ts : TE} {i : Nat} {tt : TT} {te : TE} {vs : List Nat} {σ : L2.St} {H : Hp} {Q : VK} (h : cLc sk K ts i (mTT tt) (mTE te) vs σ H Q) : cLcG sk K (mTE ts) i (mTT tt) (mTE te) vs σ H Q := by
  refine ⟨_, h, fun v H1 ⟨a, xs, ev, hs, hl, hi, R, r0, rk, rt, rd⟩ => ⟨a, xs, ev, hs, hl, hi, fun D hD => ?_⟩⟩
  refine ⟨fun k acc H => Same H1 H ∧ R k acc H, ⟨same_new hD, rk _ _ _ _ (Kp.new hD) r0⟩, fun k acc H z => hs.same z.1, fun k x H acc hx z hd => ?_, fun acc H hd z => rd D acc H hD z.1 hd z.2⟩
  obtain ⟨z1, z2⟩ := z
  refine (rt k x H acc hx z2 z1).imp fun b H3 q => ?_
  cases b with
  | true =>
    refine iteT ?_
    have q2 : mTE te ((wipe σ vs).set i (some x)) H3 fun y H4 => Same H H4 ∧ R (k + 1) (acc ++ [y]) H4 := by simpa using q
    refine q2.imp fun y H4 z => ?_
    have d4 := z.1 _ _ hd
    exact ⟨d4, same_put (z1.trans z.1) hD, rk _ _ _ _ (Kp.lst d4) z.2⟩
  | false =>
    refine iteF ?_
    have q : Same H H3 ∧ R (k + 1) acc H3 := by simpa using q
    exact ⟨q.1 _ _ hd, z1.trans q.1, q.2⟩

/-- the turn as the layer's loops ask it -/
theorem lcTurn_step {i : Nat} {tt : TT} {te : TE} {vs : List Nat} {σ : L2.St} {D : Addr} {J : Nat → List V → Hp → Prop} {x : V} {k : Nat} {H : Hp} (hi : i ∈ vs) (hk : k < 1000)
    (ht : ∀ acc, J k acc H → H D = some (.lst acc) → mTT tt ((wipe σ vs).set i (some x)) H fun b H3 => if b = true then mTE te ((wipe σ vs).set i (some x)) H3 fun y H4 => H4 D = some (.lst acc) ∧ J (k + 1) (acc ++ [y]) (upd H4 D (.lst (acc ++ [y]))) else H3 D = some (.lst acc) ∧ J (k + 1) acc H3)
    (hP : ∃ acc, H D = some (.lst acc) ∧ acc.length ≤ k ∧ J k acc H) :
    gName i x (wipe σ vs) H fun σ2 H2 => wipe σ2 vs = wipe σ vs ∧ mTT tt σ2 H2 fun b H3 =>
      if b = true then mTE te σ2 H3 fun y H4 => ∃ acc, H4 D = some (.lst acc) ∧ acc.length < sizeLine ∧ ∃ acc', upd H4 D (.lst (acc ++ [y])) D = some (.lst acc') ∧ acc'.length ≤ k + 1 ∧ J (k + 1) acc' (upd H4 D (.lst (acc ++ [y])))
      else ∃ acc', H3 D = some (.lst acc') ∧ acc'.length ≤ k + 1 ∧ J (k + 1) acc' H3 := by
  obtain ⟨acc, hd, hl, hj⟩ := hP
  refine ⟨wipe_set hi, (ht acc hj hd).imp fun b H3 q => ?_⟩
  cases b with
  | true =>
    refine iteT ?_
    have q2 : mTE te ((wipe σ vs).set i (some x)) H3 fun y H4 => H4 D = some (.lst acc) ∧ J (k + 1) (acc ++ [y]) (upd H4 D (.lst (acc ++ [y]))) := by simpa using q
    exact q2.imp fun y H4 z => ⟨acc, z.1, small1000 (by omega), _, upd_same, by simp; omega, z.2⟩
  | false =>
    refine iteF ?_
    have q2 : H3 D = some (.lst acc) ∧ J (k + 1) acc H3 := by simpa using q
    exact ⟨acc, q2.1, by omega, q2.2⟩
section
variable {X : Cx} {elt iter : Expr} {ifs : List Expr} {scope : Scope} {own : List (Str × Nat)} {x y : Str} {px py pos spos : Pos} {i j : Nat} {ts tt' te : TE} {tt : TT}
theorem cLcG_l {K : PySem.W.Frag} {vs : List Nat} {σ : L2.St} {H : Hp} {Q : VK} (h : cLcG .l K (mTE ts) i (mTT tt) (mTE te) vs σ H Q) : tLc (iList K (mTE ts)) (gName i) (mTT tt) (mTE te) vs σ H Q := by
  refine mTE.imp h fun v H1 ⟨a, xs, ev, hs, hl, hi, q⟩ => ⟨a, ev, ⟨xs, hs⟩, fun D hD => ?_⟩
  obtain ⟨J, j0, js, jt, jd⟩ := q D hD
  refine lc_list (K := K) (a := a) (xs := xs) (fun k H => ∃ acc, H D = some (.lst acc) ∧ acc.length ≤ k ∧ J k acc H) ⟨[], upd_same, Nat.le_refl _, j0⟩ (fun k H _ ⟨acc, _, _, z⟩ => js k acc H z) (fun k x H hx hP => ?_) fun H ⟨acc, hd, _, z⟩ => jd acc H hd z
  exact lcTurn_step hi (by have := (List.getElem?_eq_some_iff.mp hx).1; omega) (fun acc z hd => jt k x H acc hx z hd) hP
theorem cLcG_t {K : PySem.W.Frag} {vs : List Nat} {σ : L2.St} {H : Hp} {Q : VK} (h : cLcG .t K (mTE ts) i (mTT tt) (mTE te) vs σ H Q) : tLc (iTup K (mTE ts)) (gName i) (mTT tt) (mTE te) vs σ H Q := by
  refine mTE.imp h fun v H1 ⟨a, xs, ev, hs, hl, hi, q⟩ => ⟨a, ev, ⟨xs, hs⟩, fun D hD => ?_⟩
  obtain ⟨J, j0, js, jt, jd⟩ := q D hD
  refine lc_tup (K := K) (a := a) (xs := xs) (fun k H => ∃ acc, H D = some (.lst acc) ∧ acc.length ≤ k ∧ J k acc H) ⟨[], upd_same, Nat.le_refl _, j0⟩ (fun k H _ ⟨acc, _, _, z⟩ => js k acc H z) (fun k x H hx hP => ?_) fun H ⟨acc, hd, _, z⟩ => jd acc H hd z
  exact lcTurn_step hi (by have := (List.getElem?_eq_some_iff.mp hx).1; omega) (fun acc z hd => jt k x H acc hx z hd) hP
/-- over range(n) -/
def cLcR (ta : TA) (i : Nat) (tt : TT) (te : TE) (vs : List Nat) : TE := fun σ H Q => ta σ H fun ws H1 => ∃ n : Nat, ws = [.int n] ∧ n ≤ 1000 ∧ i ∈ vs ∧ ∀ D, H1 D = none →
  ∃ J : Nat → List V → Hp → Prop, J 0 [] (upd H1 D (.lst [])) ∧ (∀ k H acc, k < n → J k acc H → H D = some (.lst acc) → tt ((wipe σ vs).set i (some (.int k))) H fun b H3 =>
    if b = true then te ((wipe σ vs).set i (some (.int k))) H3 fun y H4 => H4 D = some (.lst acc) ∧ J (k + 1) (acc ++ [y]) (upd H4 D (.lst (acc ++ [y]))) else H3 D = some (.lst acc) ∧ J (k + 1) acc H3) ∧
    ∀ acc H, H D = some (.lst acc) → J n acc H → Q (.ref D) H
theorem cLcR_r {ta : TA} {vs : List Nat} {σ : L2.St} {H : Hp} {Q : VK} (h : cLcR ta i (mTT tt) (mTE te) vs σ H Q) : tLc (iRng1 (mTA ta)) (gName i) (mTT tt) (mTE te) vs σ H Q := by
  refine ⟨_, h, fun ws H1 ⟨n, ev, hl, hi, q⟩ => ⟨(n : Int), ev, by omega, by omega, fun D hD => ?_⟩⟩
  obtain ⟨J, j0, jt, jd⟩ := q D hD
  refine lc_range (lo := 0) (n := ((n : Int)).toNat) (fun k H => ∃ acc, H D = some (.lst acc) ∧ acc.length ≤ k ∧ J k acc H) ⟨[], upd_same, Nat.le_refl _, j0⟩ (fun k H hk hP => ?_) fun H ⟨acc, hd, _, z⟩ => jd acc H hd z
  rw [Int.toNat_natCast] at hk
  rw [show (0 : Int) + (k : Int) = (k : Int) by omega]
  exact lcTurn_step hi (by omega) (fun acc z hd => jt k H acc hk z hd) hP
variable (hc : X.calm = true) (hN : X.N.Nodup) (ok : BlkOk X.N X.env.scope scope own)
/-- [elt for x in iter if ..] -/
theorem ce_lcG (hc : X.calm = true) (hN : X.N.Nodup) (hi : PE X iter ts) (ok : BlkOk X.N X.env.scope scope own) (hg : ∀ (s : Shared) (H : Hp) (C : Addr) (cl : List (Str × Addr)) (fp : List Addr), PG (X.blk s H scope (compEnvC scope cl C X.env) fp) (.Name x px) (gName i))
    (ht : ∀ (s : Shared) (H : Hp) (C : Addr) (cl : List (Str × Addr)) (fp : List Addr), PTs (X.blk s H scope (compEnvC scope cl C X.env) fp) ifs tt)
    (he : ∀ (s : Shared) (H : Hp) (C : Addr) (cl : List (Str × Addr)) (fp : List Addr), PE (X.blk s H scope (compEnvC scope cl C X.env) fp) elt te) (sk : Src) (hs : ∀ x, foldedSetIterable iter X.env x = pure x := by intro _; rfl) :
    PE X (.ListComp elt [⟨.Name x px, iter, ifs, 0⟩] scope pos) (cLcG sk X.K (mTE ts) i (mTT tt) (mTE te) (own.map (·.2))) := match sk with
  | .l => pe_imp (fun _ _ _ q => cLcG_l q) (pe_lc hc hN (pi_list (pe_m hi)) ok hg (fun _ _ _ _ _ => pts_m (ht _ _ _ _ _)) (fun _ _ _ _ _ => pe_m (he _ _ _ _ _)) hs)
  | .t => pe_imp (fun _ _ _ q => cLcG_t q) (pe_lc hc hN (pi_tup (pe_m hi)) ok hg (fun _ _ _ _ _ => pts_m (ht _ _ _ _ _)) (fun _ _ _ _ _ => pe_m (he _ _ _ _ _)) hs)
/-- .. whose turns only make new objects -/
theorem ce_lc (sk : Src) (hc : X.calm = true) (hN : X.N.Nodup) (hi : PE X iter ts) (ok : BlkOk X.N X.env.scope scope own) (hg : ∀ (s : Shared) (H : Hp) (C : Addr) (cl : List (Str × Addr)) (fp : List Addr), PG (X.blk s H scope (compEnvC scope cl C X.env) fp) (.Name x px) (gName i))
    (ht : ∀ (s : Shared) (H : Hp) (C : Addr) (cl : List (Str × Addr)) (fp : List Addr), PTs (X.blk s H scope (compEnvC scope cl C X.env) fp) ifs tt)
    (he : ∀ (s : Shared) (H : Hp) (C : Addr) (cl : List (Str × Addr)) (fp : List Addr), PE (X.blk s H scope (compEnvC scope cl C X.env) fp) elt te) (hs : ∀ x, foldedSetIterable iter X.env x = pure x := by intro _; rfl) :
    PE X (.ListComp elt [⟨.Name x px, iter, ifs, 0⟩] scope pos) (cLc sk X.K ts i (mTT tt) (mTE te) (own.map (·.2))) := pe_imp (fun _ _ _ q => cLc_G q) (ce_lcG hc hN hi ok hg ht he sk hs)
theorem ce_lcR {a : Expr} {p pp : Pos} {ta : TA} (hc : X.calm = true) (hN : X.N.Nodup) (hgr : Gl X "range") (hm : X.mg "range" = none) (ha : PA X [a] ta) (ok : BlkOk X.N X.env.scope scope own)
    (hg : ∀ (s : Shared) (H : Hp) (C : Addr) (cl : List (Str × Addr)) (fp : List Addr), PG (X.blk s H scope (compEnvC scope cl C X.env) fp) (.Name x px) (gName i))
    (ht : ∀ (s : Shared) (H : Hp) (C : Addr) (cl : List (Str × Addr)) (fp : List Addr), PTs (X.blk s H scope (compEnvC scope cl C X.env) fp) ifs tt)
    (he : ∀ (s : Shared) (H : Hp) (C : Addr) (cl : List (Str × Addr)) (fp : List Addr), PE (X.blk s H scope (compEnvC scope cl C X.env) fp) elt te)
    (hst : starEach [a] X.env = [(false, eval a X.env)] := by rfl) (hs : ∀ x, foldedSetIterable (.Call (.Name "range" p) [a] [] pp) X.env x = pure x := by intro _; rfl) :
    PE X (.ListComp elt [⟨.Name x px, .Call (.Name "range" p) [a] [] pp, ifs, 0⟩] scope pos) (cLcR ta i (mTT tt) (mTE te) (own.map (·.2))) :=
  pe_imp (fun _ _ _ q => cLcR_r q) (pe_lc hc hN (pi_range1 hgr hm (pa_m ha) hst) ok hg (fun _ _ _ _ _ => pts_m (ht _ _ _ _ _)) (fun _ _ _ _ _ => pe_m (he _ _ _ _ _)) hs)
/-- y = [..] on one line, y a local -/
theorem cs_lcG (hc : X.calm = true) (hN : X.N.Nodup) (hy : X.N[j]? = some y) (hyl : X.env.scope.names.lookup y = some .local)
    (hsw : swapsWith (.ListComp elt [⟨.Name x px, iter, ifs, 0⟩] scope pos) (some (.Name y py)) spos.line X.env = pure true) (hi : PE X iter ts) (ok : BlkOk X.N X.env.scope scope own)
    (hg : ∀ (s : Shared) (H : Hp) (C : Addr) (cl : List (Str × Addr)) (fp : List Addr), PG (X.blk s H scope (compEnvC scope cl C X.env) fp) (.Name x px) (gName i))
    (ht : ∀ (s : Shared) (H : Hp) (C : Addr) (cl : List (Str × Addr)) (fp : List Addr), PTs (X.blk s H scope (compEnvC scope cl C X.env) fp) ifs tt)
    (he : ∀ (s : Shared) (H : Hp) (C : Addr) (cl : List (Str × Addr)) (fp : List Addr), PE (X.blk s H scope (compEnvC scope cl C X.env) fp) elt te) (sk : Src) (hs : ∀ x, foldedSetIterable iter X.env x = pure x := by intro _; rfl) :
    PS X (.Assign [.Name y py] (.ListComp elt [⟨.Name x px, iter, ifs, 0⟩] scope pos) spos) (tAsg (cLcG sk X.K (mTE ts) i (mTT tt) (mTE te) (own.map (·.2))) (gName j)) := match sk with
  | .l => ps_imp (fun _ _ _ q => cLcG_l q) (ps_setLc hc hN hy hyl hsw (pi_list (pe_m hi)) ok hg (fun _ _ _ _ _ => pts_m (ht _ _ _ _ _)) (fun _ _ _ _ _ => pe_m (he _ _ _ _ _)) hs)
  | .t => ps_imp (fun _ _ _ q => cLcG_t q) (ps_setLc hc hN hy hyl hsw (pi_tup (pe_m hi)) ok hg (fun _ _ _ _ _ => pts_m (ht _ _ _ _ _)) (fun _ _ _ _ _ => pe_m (he _ _ _ _ _)) hs)
theorem cs_lc (sk : Src) (hc : X.calm = true) (hN : X.N.Nodup) (hy : X.N[j]? = some y) (hyl : X.env.scope.names.lookup y = some .local)
    (hsw : swapsWith (.ListComp elt [⟨.Name x px, iter, ifs, 0⟩] scope pos) (some (.Name y py)) spos.line X.env = pure true) (hi : PE X iter ts) (ok : BlkOk X.N X.env.scope scope own)
    (hg : ∀ (s : Shared) (H : Hp) (C : Addr) (cl : List (Str × Addr)) (fp : List Addr), PG (X.blk s H scope (compEnvC scope cl C X.env) fp) (.Name x px) (gName i))
    (ht : ∀ (s : Shared) (H : Hp) (C : Addr) (cl : List (Str × Addr)) (fp : List Addr), PTs (X.blk s H scope (compEnvC scope cl C X.env) fp) ifs tt)
    (he : ∀ (s : Shared) (H : Hp) (C : Addr) (cl : List (Str × Addr)) (fp : List Addr), PE (X.blk s H scope (compEnvC scope cl C X.env) fp) elt te) (hs : ∀ x, foldedSetIterable iter X.env x = pure x := by intro _; rfl) :
    PS X (.Assign [.Name y py] (.ListComp elt [⟨.Name x px, iter, ifs, 0⟩] scope pos) spos) (tAsg (cLc sk X.K ts i (mTT tt) (mTE te) (own.map (·.2))) (gName j)) := ps_imp (fun _ _ _ q => cLc_G q) (cs_lcG hc hN hy hyl hsw hi ok hg ht he sk hs)
end
end Lh
set_option Elab.async false
set_option linter.all false
set_option maxRecDepth 100000
set_option maxHeartbeats 4000000
/-! Dicts whose keys are situations (a tuple of an int and a tuple of ints). -/
namespace Lh
open PySem PySem.Spec PyProof.Rows L2
def nkS (s : Sit) : NestedKey := .tup [.num s.1, .tup (s.2.map NestedKey.num)]
theorem map_num_inj : ∀ {a b : List Int}, a.map NestedKey.num = b.map NestedKey.num → a = b
  | [], [], _ => rfl
  | [], _ :: _, e => by simp at e
  | _ :: _, [], e => by simp at e
  | x :: xs, y :: ys, e => by
    rw [List.map_cons, List.map_cons] at e
    injection e with e1 e2
    injection e1 with e1
    rw [e1, map_num_inj e2]
theorem nkS_inj {s t : Sit} (e : nkS s = nkS t) : s = t := by
  obtain ⟨p, r⟩ := s
  obtain ⟨q, u⟩ := t
  unfold nkS at e
  injection e with e
  injection e with e1 e2
  injection e1 with e1
  injection e2 with e2 _
  injection e2 with e2
  have e2 := map_num_inj e2
  simp only at e1 e2
  rw [e1, e2]
theorem depth_nums : ∀ l : List Int, NestedKey.depthAll (l.map NestedKey.num) = 0
  | [] => rfl
  | x :: xs => by
    show max (NestedKey.depth (.num x)) (NestedKey.depthAll (xs.map NestedKey.num)) = 0
    rw [depth_nums xs]
    rfl
theorem depth_nkS (s : Sit) : (nkS s).depth ≤ 8 := by
  show max (NestedKey.depth (.num s.1)) (max (NestedKey.depth (.tup (s.2.map NestedKey.num))) 0) + 1 ≤ 8
  have e : NestedKey.depth (.tup (s.2.map NestedKey.num)) = NestedKey.depthAll (s.2.map NestedKey.num) + 1 := rfl
  rw [e, depth_nums]
  show max 0 (max (0 + 1) 0) + 1 ≤ 8
  decide
/-- an entry: the situation, where its tuple stands, the value -/
abbrev Ent := Sit × Addr × V
/-- what the dict holds at a situation -/
def at_ (es : List Ent) (k : Sit) : Option V := (es.find? fun e => decide (e.1 = k)).map (·.2.2)
def put_ (es : List Ent) (k : Sit) (a : Addr) (v : V) : List Ent := if (at_ es k).isSome = true then es.map (fun e => if e.1 = k then (e.1, e.2.1, v) else e) else es ++ [(k, a, v)]
def EntR (e : Ent) (x : NestedKey × Addr × Value) : Prop := x.1 = nkS e.1 ∧ x.2.1 = e.2.1 ∧ RelV e.2.2 x.2.2
abbrev EntsR : List Ent → List (NestedKey × Addr × Value) → Prop := Paired EntR
theorem EntsR.at_ {es : List Ent} {xs : List (NestedKey × Addr × Value)} (r : EntsR es xs) (k : Sit) : RelO (at_ es k) ((atKey xs (nkS k)).map (·.2)) := by
  induction r with
  | nil => exact True.intro
  | @cons e x es xs h t ih =>
    obtain ⟨h1, _, h3⟩ := h
    by_cases q : e.1 = k
    · have q2 : x.1 = nkS k := by rw [h1, q]
      have a1 : Lh.at_ (e :: es) k = some e.2.2 := by simp [Lh.at_, q]
      have a2 : atKey (x :: xs) (nkS k) = some x.2 := by simp [atKey, List.find?_cons, q2]
      rw [a1, a2]
      exact h3
    · have q2 : ¬ x.1 = nkS k := fun z => q (nkS_inj (h1.symm.trans z))
      have a1 : Lh.at_ (e :: es) k = Lh.at_ es k := by simp [Lh.at_, q]
      have a2 : atKey (x :: xs) (nkS k) = atKey xs (nkS k) := by simp [atKey, List.find?_cons, q2]
      rw [a1, a2]
      exact ih
theorem EntsR.repl {es : List Ent} {xs : List (NestedKey × Addr × Value)} (r : EntsR es xs) (k : Sit) {y : V} {u : Value} (ry : RelV y u) :
    EntsR (es.map fun e => if e.1 = k then (e.1, e.2.1, y) else e) (xs.map (putAt (nkS k) u)) := by
  induction r with
  | nil => exact .nil
  | @cons e x es xs h t ih =>
    rw [List.map_cons, List.map_cons]
    refine .cons ?_ ih
    obtain ⟨h1, h2, h3⟩ := h
    unfold putAt
    by_cases q : e.1 = k
    · rw [if_pos q, if_pos (by rw [h1, q])]
      exact ⟨h1, h2, ry⟩
    · rw [if_neg q, if_neg (fun z => q (nkS_inj (h1.symm.trans z)))]
      exact ⟨h1, h2, h3⟩
theorem EntsR.put {es : List Ent} {xs : List (NestedKey × Addr × Value)} (r : EntsR es xs) (k : Sit) {b : Addr} {y : V} {u : Value} (ry : RelV y u) : EntsR (put_ es k b y) (storedH xs (nkS k) b u) := by
  have e : (Lh.at_ es k).isSome = (atKey xs (nkS k)).isSome := by rw [(r.at_ k).isSome_eq, Option.isSome_map]
  unfold put_ storedH
  rw [e]
  by_cases q : (atKey xs (nkS k)).isSome = true
  · rw [if_pos q, if_pos q]
    exact r.repl k ry
  · rw [if_neg q, if_neg q]
    exact Paired.snoc r ⟨rfl, rfl, ry⟩
/-- the dict at d, with these entries in their order -/
def dicOk (P : Program) (w : World) (d : Addr) (es : List Ent) (h : Heap) : Prop :=
  es.length ≤ sizeLine ∧ (d == sysModules) = false ∧ ∃ xs, EntsR es xs ∧ ∃ o en ep, h.get? d = some o ∧ o.ExactDict ∧ o.data = .dict en ep ∧ en.toList = xs.map (entryOfKey (nestedKind P w)) ∧ (xs.map (·.1)).Nodup
def dicO (P : Program) (w : World) (d : Addr) (es : List Ent) : HO := .ext (dicOk P w d es)
theorem dicO_ok {P : Program} {w : World} {H : Hp} {h : Heap} {d : Addr} {es : List Ent} (x : dicOk P w d es h) : ObjOk P w H h d (dicO P w d es) := by
  refine ⟨x, ?_, fun h1 h2 y k => ?_⟩
  · obtain ⟨_, _, _, _, o, _, _, e, _⟩ := x
    exact ⟨o, e⟩
  · obtain ⟨a, b, xs, r, o, en, ep, e, q⟩ := y
    exact ⟨a, b, xs, r, o, en, ep, k o e, q⟩
/-- the keys' tuples stand -/
def KeysOk (H : Hp) (es : List Ent) : Prop := ∀ e ∈ es, ST H (.ref e.2.1) e.1
theorem KeysOk.kp {H H' : Hp} {es : List Ent} (k : Kp H H') (h : KeysOk H es) : KeysOk H' es := fun e m => (h e m).kp k
theorem mem_put_ {es : List Ent} {k : Sit} {a : Addr} {v : V} {e : Ent} (m : e ∈ put_ es k a v) : (∃ e' ∈ es, e.1 = e'.1 ∧ e.2.1 = e'.2.1 ∧ (e = e' ∨ (e.1 = k ∧ e.2.2 = v))) ∨ e = (k, a, v) := by
  unfold put_ at m
  split at m
  · obtain ⟨e', h1, h2⟩ := List.mem_map.mp m
    refine .inl ⟨e', h1, ?_⟩
    split at h2
    · rename_i q
      subst h2
      exact ⟨rfl, rfl, .inr ⟨q, rfl⟩⟩
    · subst h2
      exact ⟨rfl, rfl, .inl rfl⟩
  · rcases List.mem_append.mp m with q | q
    · exact .inl ⟨e, q, rfl, rfl, .inl rfl⟩
    · exact .inr (by simpa using q)
theorem KeysOk.put {H : Hp} {es : List Ent} {k : Sit} {a : Addr} {v : V} (h : KeysOk H es) (s : ST H (.ref a) k) : KeysOk H (put_ es k a v) := fun e m => by
  rcases mem_put_ m with ⟨e', m', e1, e2, _⟩ | q
  · rw [e1, e2]
    exact h e' m'
  · rw [q]
    exact s
theorem length_put_ (es : List Ent) (k : Sit) (a : Addr) (v : V) : (put_ es k a v).length ≤ es.length + 1 := by
  unfold put_
  split <;> simp
section
variable {X : Cx} {pins : List (Addr × Obj)} {σ : L2.St} {H : Hp} {s : Shared} {d a : Addr} {es : List Ent} {k : Sit} {v y : V} {u r : Value} {A : Around} {E : Value → Shared → Prop}
theorem nested_ints {h : Heap} : ∀ {l : List Int} {us : List Value}, Vals (l.map V.int) us → NestedAll h (l.map NestedKey.num) us
  | [], _, r => by
    rw [List.map_nil] at r
    cases r
    exact .nil
  | n :: l, _, r => by
    rw [List.map_cons] at r
    cases r with
    | cons h t =>
      obtain ⟨tk, rfl⟩ := h
      exact .cons (.int n tk) (nested_ints t)
theorem IT.nested (I : Inv X pins σ H s) (h : IT H v ns) (rv : RelV v u) : NestedIs s.heap (.tup (ns.map NestedKey.num)) u := by
  obtain ⟨a, rfl, q⟩ := h
  obtain rfl : u = Value.ref a := rv
  obtain ⟨_, its, r, o, h1, h2, n, h3⟩ := (show ObjOk X.prog X.w H s.heap a (.tup (ns.map V.int)) from I.hok a _ q)
  exact .tup h1 h2 h3 (by simpa using nested_ints r)
theorem ST.nested (I : Inv X pins σ H s) (h : ST H v k) (rv : RelV v u) : ∃ a, u = .ref a ∧ (nestedKind X.prog X.w).is s.heap (nkS k) a := by
  obtain ⟨a, w, rfl, q, t⟩ := h
  obtain rfl : u = Value.ref a := rv
  obtain ⟨_, its, r, o, h1, h2, n, h3⟩ := (show ObjOk X.prog X.w H s.heap a (.tup [.int k.1, w]) from I.hok a _ q)
  cases r with
  | cons r1 r2 =>
    obtain ⟨tk, rfl⟩ := r1
    cases r2 with
    | cons r2 r3 =>
      cases r3
      refine ⟨a, rfl, .tup h1 h2 h3 ?_, depth_nkS k⟩
      simp only [List.toList_toArray]
      exact .cons (.int _ tk) (.cons (t.nested I r2) .nil)
theorem dic_of (I : Inv X pins σ H s) (hd : Rd H d (dicO X.prog X.w d es)) (hk : KeysOk H es) : es.length ≤ sizeLine ∧ (d == sysModules) = false ∧ ∃ xs, EntsR es xs ∧ s.heap.DictOfH (nestedKind X.prog X.w) d xs := by
  have q : dicOk X.prog X.w d es s.heap := (show ObjOk X.prog X.w H s.heap d (dicO X.prog X.w d es) from hd.ok I.hok).1
  obtain ⟨h1, h2, xs, h3, o, en, ep, h4, h5, h6, h7, h8⟩ := q
  refine ⟨h1, h2, xs, h3, o, en, ep, h4, h5, h6, h7, fun x hx => ?_, h8⟩
  have all : ∀ {l : List Ent} {m : List (NestedKey × Addr × Value)}, EntsR l m → (∀ e ∈ l, ST H (.ref e.2.1) e.1) → ∀ x ∈ m, (nestedKind X.prog X.w).is s.heap x.1 x.2.1 := by
    intro l m q
    induction q with
    | nil => intro _ x hx; exact nomatch hx
    | @cons e x es xs hq t ih =>
      intro ho y hy
      rcases List.mem_cons.mp hy with z | hy
      · subst z
        obtain ⟨b, e1, e2⟩ := (ho e (List.mem_cons_self ..)).nested I (u := .ref e.2.1) rfl
        cases e1
        rw [hq.1, hq.2.1]
        exact e2
      · exact ih (fun e' m' => ho e' (List.mem_cons_of_mem _ m')) y hy
  exact all h3 hk x hx
theorem room8 (hu : X.A.units + 64 < cLine) : (nestedKind X.prog X.w).room X.A.in1 := by
  show X.A.units + 1 + 8 < cLine
  omega
/-- k in d -/
def rInS (X : Cx) : R2 := fun x y H Q => ∃ d es k, y = .ref d ∧ Rd H d (dicO X.prog X.w d es) ∧ KeysOk H es ∧ ST H x k ∧ Q (.bl (at_ es k).isSome) H
def rNotInS (X : Cx) : R2 := fun x y H Q => ∃ d es k, y = .ref d ∧ Rd H d (dicO X.prog X.w d es) ∧ KeysOk H es ∧ ST H x k ∧ Q (.bl (!(at_ es k).isSome)) H
theorem op_inS (hu : X.A.units + 64 < cLine) : OpR X (compareOp .In) (rInS X) := by
  intro pins s σ H x y v u Q I rx ry h
  obtain ⟨d, es, k, rfl, hd, hk, hs, q⟩ := h
  obtain rfl : u = Value.ref d := ry
  obtain ⟨_, h2, xs, h3, h4⟩ := dic_of I hd hk
  obtain ⟨a, rfl, h5⟩ := hs.nested I rx
  refine wpAny_in_heap (room8 hu) h5 h2 h4 ?_
  have e := (h3.at_ k).isSome_eq
  rw [Option.isSome_map] at e
  rw [← e]
  exact ⟨.bl _, H, I.tok _, rfl, q⟩
theorem op_notInS (hu : X.A.units + 64 < cLine) : OpR X (compareOp .NotIn) (rNotInS X) := by
  intro pins s σ H x y v u Q I rx ry h
  obtain ⟨d, es, k, rfl, hd, hk, hs, q⟩ := h
  obtain rfl : u = Value.ref d := ry
  obtain ⟨_, h2, xs, h3, h4⟩ := dic_of I hd hk
  obtain ⟨a, rfl, h5⟩ := hs.nested I rx
  refine wpAny_notIn_heap (room8 hu) h5 h2 h4 ?_
  have e := (h3.at_ k).isSome_eq
  rw [Option.isSome_map] at e
  rw [← e]
  exact ⟨.bl _, H, I.tok _, rfl, q⟩
/-- d[k] -/
def rIxS' (X : Cx) : R2 := fun x y H Q => ∃ d es k v, x = .ref d ∧ Rd H d (dicO X.prog X.w d es) ∧ KeysOk H es ∧ ST H y k ∧ at_ es k = some v ∧ Q v H
theorem ix_dicS (hu : X.A.units + 64 < cLine) : IxR X (rIxS' X) := by
  intro value slice pins s σ H x y v u Q I rx ry h hs
  obtain ⟨d, es, k, z, rfl, hd, hk, hy, hz, q⟩ := h
  obtain rfl : v = Value.ref d := rx
  obtain ⟨_, h2, xs, h3, h4⟩ := dic_of I hd hk
  obtain ⟨a, rfl, h5⟩ := hy.nested I ry
  obtain ⟨w', hw, rw'⟩ := RelO.some_of (v := z) (o := (atKey xs (nkS k)).map (·.2)) (by rw [← hz]; exact h3.at_ k)
  obtain ⟨p, hp, hp2⟩ := Option.map_eq_some_iff.mp hw
  refine tail_any h4.typeIs PySem.F.slot_dict_getitem.lookup (wpAny_getItem_heap (room8 hu) h5 h4 hp ?_) hs
  rw [hp2]
  exact ⟨z, H, I.tok _, rw', q⟩
/-- d[k] = v -/
def rSetS (X : Cx) : TSet := fun o i v H Q => ∃ d es k a, o = .ref d ∧ H d = some (dicO X.prog X.w d es) ∧ KeysOk H es ∧ i = .ref a ∧ ST H i k ∧ es.length < 1000 ∧ Q (upd H d (dicO X.prog X.w d (put_ es k a v)))
theorem set_dicS (hu : X.A.units + 64 < cLine) : PSet X (rSetS X) := by
  intro pins s σ H o i v ov iv u Q I ro ri rv h
  obtain ⟨d, es, k, a, rfl, hd, hk, rfl, hi, hl, q⟩ := h
  obtain rfl : ov = Value.ref d := ro
  obtain ⟨_, h2, xs, h3, h4⟩ := dic_of I (.inl hd) hk
  obtain ⟨b, e, h5⟩ := hi.nested I ri
  obtain rfl : iv = Value.ref a := ri
  cases e
  have hz : xs.length ≤ sizeLine := by
    rw [← Paired.length h3]
    exact Nat.le_of_lt (small1000 (Nat.le_of_lt hl))
  refine wpAny_setItem_heap (hsz := hz) (room8 hu) h5 h4 fun h' dd' hs => ?_
  obtain ⟨ob, en, ep, hq, g2, g3, g4, _, g5⟩ := dd'
  refine ⟨_, d_write (X := X) I (by rw [hd]; exact True.intro) hs ⟨ob, hq⟩ (dicO_ok ⟨?_, h2, _, h3.put k rv, ob, en, ep, hq, g2, g3, g4, g5⟩), q⟩
  have := length_put_ es k a v
  exact Nat.le_of_lt (small1000 (by omega))
/-- {} -/
def tDNewS (X : Cx) : TE := fun _ H Q => ∀ d H2, H d = none → Same H H2 → H2 d = some (dicO X.prog X.w d []) → Q (.ref d) H2
theorem ce_dnewS {pos : Pos} : PE X (.Dict [] [] pos) (tDNewS X) := ⟨fun pins s σ H Q I h => by
  have hn := I.hok.fresh (Nat.le_refl s.heap.objs.size)
  have hs : (s.heap.objs.size == sysModules) = false := by
    have := I.big
    exact Bool.eq_false_iff.mpr fun e => by
      have e := beq_iff_eq.mp e
      rw [e] at this
      exact absurd this (Nat.lt_irrefl _)
  have ok : dicOk X.prog X.w s.heap.objs.size [] (s.heap.push { cls := .type "dict", data := .dict #[] }) := ⟨Nat.zero_le _, hs, [], .nil, _, #[], 0, Heap.get?_push_size _ rfl, ⟨rfl, rfl, rfl⟩, rfl, rfl, List.nodup_nil⟩
  exact wpAny_Dict_empty ⟨.ref s.heap.objs.size, upd H s.heap.objs.size (dicO X.prog X.w s.heap.objs.size []), I.laid (a := s.heap.objs.size) (t' := s.toks) (fun _ _ q => Heap.get?_push_of_some _ q) (Nat.le_refl _) (dicO_ok ok), rfl, h _ _ hn (same_new hn) upd_same⟩⟩
/-- d.get(k) -/
def tDGetS (X : Cx) (td ty : TE) : TE := fun σ H Q => td σ H fun x H1 => ∃ d es, x = .ref d ∧ Rd H1 d (dicO X.prog X.w d es) ∧ KeysOk H1 es ∧ ty σ H1 fun y H2 => ∃ k, Rd H2 d (dicO X.prog X.w d es) ∧ KeysOk H2 es ∧ ST H2 y k ∧ Q ((at_ es k).getD .non) H2
theorem ce_dgetS {o e : Expr} {apos cpos : Pos} {td ty : TE} (hu : X.A.units + 64 < cLine) (ho : PE X o td) (he : PE X e ty) (m : M1 X o "get" apos e cpos) : PE X (.Call (.Attribute o "get" apos) [e] [] cpos) (tDGetS X td ty) := by
  refine ⟨fun pins s σ H Q I h => ?_⟩
  refine wpAny_Call_method m.base m.few m.line PySem.F.plainAttrs_dict PySem.F.slot_dict_get PySem.F.type_dict_get (thn (ho.run pins s σ H _ I h) fun u s1 ⟨x, H1, I1, rx, d, es, ex, hd, hk, q1⟩ => ?_)
  subst ex
  obtain rfl : u = Value.ref d := rx
  obtain ⟨_, h2, xs, h3, h4⟩ := dic_of I1 hd hk
  refine ⟨h4.typeIs, fun b e => ?_, ?_⟩
  · cases e
    obtain ⟨ob, _, _, g1, g2, _⟩ := h4
    exact ⟨ob, g1, g2.2.1⟩
  rw [m.trees]
  refine Calls.callWith_builtin rfl (Calls.evalArgs_plain (Calls.spliced_cons (thn (he.run pins s1 σ H1 _ I1 q1) fun iv s2 ⟨y, H2, I2, ry, k, hd2, hk2, hy, q2⟩ => Calls.spliced_nil ?_)))
  obtain ⟨_, h2', xs', h3', h4'⟩ := dic_of I2 hd2 hk2
  obtain ⟨a, rfl, h5⟩ := hy.nested I2 ry
  refine call_meetsIn PySem.F.slot_dict_get h4'.typeIs PySem.F.entry_dict_get (PySem.F.args_dict_get_2 _ _) (meetsH_dict_get (nestedKind X.prog X.w) d a h2') ⟨room8 hu, nkS k, xs', h5, h4', ?_⟩
  exact ⟨(at_ es k).getD .non, H2, I2.tok _, (h3'.at_ k).getD (show RelV V.non Value.none from rfl), q2⟩
end
end Lh
set_option Elab.async false
set_option linter.all false
set_option maxRecDepth 100000
set_option maxHeartbeats 4000000
/-! A walk over the keys of such a dict. -/
namespace Lh
open PySem PySem.Spec PyProof.Rows L2
def Itks (P : Program) (w : World) (d : Addr) (o : Obj) (es : List Ent) : It :=
  ⟨fun i H => H d = some (.frz o (dicO P w d es)) ∧ i < es.length, fun i H x H' => H' = H ∧ ∃ e, es[i]? = some e ∧ x = .ref e.2.1, fun i H => H d = some (.frz o (dicO P w d es)) ∧ es.length ≤ i⟩
section
variable {X : Cx} {pins : List (Addr × Obj)} {σ : L2.St} {H : Hp} {s : Shared} {d : Addr} {o : Obj} {es : List Ent}
theorem ents_get : ∀ {es : List Ent} {xs : List (NestedKey × Addr × Value)} {i : Nat} {e : Ent}, EntsR es xs → es[i]? = some e → ∃ x, xs[i]? = some x ∧ EntR e x
  | _, _, _, _, .nil, h => by simp at h
  | _, _, 0, _, .cons r _, h => by
    simp at h
    subst h
    exact ⟨_, rfl, r⟩
  | _, _, i + 1, e, .cons _ t, h => by
    obtain ⟨x, h1, h2⟩ := ents_get (i := i) (e := e) t (by simpa using h)
    exact ⟨x, by simpa using h1, h2⟩
theorem frz_dic (I : Inv X pins σ H s) (h : H d = some (.frz o (dicO X.prog X.w d es))) :
    (d == sysModules) = false ∧ s.heap.get? d = some o ∧ o.ExactDict ∧ ∃ (en : Array DictEntry) (ep : Nat), o.data = .dict en ep ∧ en.size = es.length ∧ ∀ (i : Nat) (e : Ent), es[i]? = some e → ∃ ent, en[i]? = some ent ∧ ent.key = .ref e.2.1 := by
  obtain ⟨hd, z, _⟩ := (show ObjOk X.prog X.w H s.heap d (.frz o (dicO X.prog X.w d es)) from I.hok d _ h)
  obtain ⟨_, hs, xs, pr, o', en, ep, ho, hx, hdt, he, _⟩ := (show dicOk X.prog X.w d es s.heap from z)
  rw [hd] at ho
  cases ho
  refine ⟨hs, hd, hx, en, ep, hdt, ?_, fun i e q => ?_⟩
  · have l1 : en.size = xs.length := size_of_entries he
    have l2 : es.length = xs.length := Paired.length pr
    omega
  · obtain ⟨b, hb, e1, e2, _⟩ := ents_get pr q
    have z := entry_at he i
    rw [hb] at z
    exact ⟨_, z, congrArg Value.ref e2⟩
theorem turn_keysS {P : Program} {w : World} {K : PySem.W.Frag} {tg : Expr} {en : Array DictEntry} {ep : Nat} (it : Addr) (hod : o.data = .dict en ep) : Turn P w K tg (Itks P w d o es) [it] it (fun i h => h.IsKeyIter it d i es.length ep) where
  mem := by simp
  obj := fun i h st b hb => by
    obtain rfl : b = it := by simpa using hb
    obtain ⟨oi, e, c, dd⟩ := st
    exact ⟨oi, e, fun v z => by rw [dd] at z; exact nomatch z⟩
  keep := fun i h h' st k => st.at fun oi e => k it (by simp) oi e
  item := by
    intro X hP hw hK hc i pins s σ H E I hf st hg
    subst hP hw hK
    obtain ⟨hd, hi⟩ := hg
    obtain ⟨f0, f1, f2, f3, f4, f5⟩ := hf it (by simp)
    obtain ⟨hs, hgd, hx, en', ep', hdt, hsz, ent⟩ := frz_dic I hd
    obtain ⟨rfl, rfl⟩ := dict_ep hod hdt
    have hkv : es[i]? = some es[i] := List.getElem?_eq_getElem hi
    obtain ⟨e1, hen, hkey⟩ := ent i es[i] hkv
    refine next_key_item st hgd hdt hsz hen fun h' st' sb => ?_
    have I1 : Inv X pins σ H { s with heap := h' } := I.turned (t' := s.toks) (fun b ob hb e => (sb.2 b hb).trans e) f0 f1 f3 f4 f5
    obtain ⟨oi, e, c, dd⟩ := id st'
    exact ⟨e1.key, rfl, go_of (s := { s with heap := h' }) e c dd (by decide) ⟨.ref es[i].2.1, H, I1, hkey, ⟨rfl, es[i], hkv, rfl⟩, st', fun b hb => (hf b hb).1⟩⟩
  done := by
    intro X hP hw hK hc i pins s σ H E I hf st hg
    subst hP hw hK
    obtain ⟨hd, hi⟩ := hg
    obtain ⟨f0, f1, f2, f3, f4, f5⟩ := hf it (by simp)
    obtain ⟨hs, hgd, hx, en', ep', hdt, hsz, ent⟩ := frz_dic I hd
    obtain ⟨rfl, rfl⟩ := dict_ep hod hdt
    exact next_key_end (I.ok.hd hc) st hgd hdt hsz hi fun h' eb => ⟨rfl, I.turned (t' := s.toks) (fun b ob hb e => eb b ob hb e) f0 f1 f3 f4 f5⟩
  self := fun A i s Q E st h => by
    refine wpAny_pyIter_slot st.typeIs F.slot_dict_keyiterator_iter (wpAny_call_entry F.slot_dict_keyiterator_iter st.typeIs F.entry_dict_keyiterator_iter ?_ (F.args_dict_keyiterator_iter_1 _))
    show wpAny _ _ (ret (.ref it)) _ _ s
    exact wpAny_pure ⟨_, rfl, "dict_keyiterator", _, st.typeIs, F.slot_dict_keyiterator_next.lookup, h⟩
def iKeysS (X : Cx) (td : TE) : TI := fun σ H R => td σ H fun x H1 => ∃ d o es, x = .ref d ∧ H1 d = some (.frz o (dicO X.prog X.w d es)) ∧ R (Itks X.prog X.w d o es) H1
theorem pi_keysS {tg e : Expr} {td : TE} (he : PE X e td) : PI X tg e (iKeysS X td) := by
  refine ⟨fun pins s σ H R I h => ?_⟩
  refine thn (he.run pins s σ H _ I h) fun u s1 ⟨x, H1, I1, rx, d, o, es, ex, hd, q⟩ => ?_
  subst ex
  obtain rfl : u = Value.ref d := rx
  obtain ⟨hs, hgd, hx, en, ep, hdt, hsz, ent⟩ := frz_dic I1 hd
  refine iter_keys hs hgd hx hdt (pi_one (tk := s1.toks) I1 _ (turn_keysS _ hdt) ⟨_, Heap.get?_push_size _ rfl, rfl, ?_⟩ q)
  rw [hsz] <;> rfl
end
/-! ### [elt for x in d if ..], d a name -/
/-- the turns make new objects alone; d is locked meanwhile -/
def cLcD (X : Cx) (j i : Nat) (tt : TT) (te : TE) (vs : List Nat) : TE := fun σ H Q => ∃ d es, σ[j]? = some (some (.ref d)) ∧ H d = some (dicO X.prog X.w d es) ∧ es.length ≤ 1000 ∧ i ∈ vs ∧
  ∃ R : Nat → List V → Hp → Prop, R 0 [] H ∧ (∀ k acc H H', Kp H H' → R k acc H → R k acc H') ∧
    (∀ k e H2 acc, es[k]? = some e → R k acc H2 → Rd H2 d (dicO X.prog X.w d es) → (∀ b o, b ≠ d → H b = some o → H2 b = some o) → tt ((wipe σ vs).set i (some (.ref e.2.1))) H2 fun b H3 =>
      if b = true then te ((wipe σ vs).set i (some (.ref e.2.1))) H3 fun y H4 => Same H2 H4 ∧ R (k + 1) (acc ++ [y]) H4 else Same H2 H3 ∧ R (k + 1) acc H3) ∧
    ∀ D acc H', H D = none → Same H H' → H' D = some (.lst acc) → R es.length acc H' → Q (.ref D) H'
theorem frz_kp {H : Hp} {d : Addr} {u : HO} {od : Obj} (h : H d = some u) (f : ¬ Fix u) : Kp H (upd H d (.frz od u)) := Kp.put h f
theorem lc_keysS {P : Program} {w : World} {d : Addr} {o : Obj} {es : List Ent} {g : TG} {tt : TT} {te : TE} {vs : List Nat} {σ : L2.St} {H1 : Hp} {D : Addr} {Qd : Hp → Prop} (Pv : Nat → Hp → Prop) (h0 : Pv 0 (upd H1 D (.lst [])))
    (hl : ∀ i H, Pv i H → H d = some (.frz o (dicO P w d es)))
    (hs : ∀ i e H, es[i]? = some e → Pv i H → g (.ref e.2.1) (wipe σ vs) H fun σ2 H2 => wipe σ2 vs = wipe σ vs ∧ tt σ2 H2 fun b H3 =>
      if b = true then te σ2 H3 fun y H4 => ∃ acc, H4 D = some (.lst acc) ∧ acc.length < sizeLine ∧ Pv (i + 1) (upd H4 D (.lst (acc ++ [y]))) else Pv (i + 1) H3) (hd : ∀ H, Pv es.length H → Qd H) :
    ∃ W : Nat → Nat → Hp → Prop, (∃ m, W 0 m (upd H1 D (.lst []))) ∧ ∀ i m H, W i m H →
      ((Itks P w d o es).stop i H ∧ Qd H) ∨ ((Itks P w d o es).go i H ∧ ∃ Nx : Hp → Prop, (∀ H', Nx H' → ∃ m', m' < m ∧ W (i + 1) m' H') ∧ ∀ x H', (Itks P w d o es).yld i H x H' → g x (wipe σ vs) H' fun σ2 H2 => wipe σ2 vs = wipe σ vs ∧ tt σ2 H2 fun b H3 =>
        if b = true then te σ2 H3 fun y H4 => ∃ acc, H4 D = some (.lst acc) ∧ acc.length < sizeLine ∧ Nx (upd H4 D (.lst (acc ++ [y]))) else Nx H3) := by
  refine ⟨fun i m H => m = es.length - i ∧ i ≤ es.length ∧ Pv i H, ⟨es.length, by simp, Nat.zero_le _, h0⟩, ?_⟩
  rintro i m H ⟨rfl, hi, p⟩
  have q := hl i H p
  by_cases hlt : i < es.length
  · refine .inr ⟨⟨q, hlt⟩, Pv (i + 1), fun H' p' => ⟨es.length - (i + 1), by omega, rfl, hlt, p'⟩, fun x H' y => ?_⟩
    obtain ⟨e1, e, e2, e3⟩ := y
    subst e1 e3
    exact hs i e _ e2 p
  · have e : i = es.length := by omega
    subst e
    exact .inl ⟨⟨q, Nat.le_refl _⟩, hd H p⟩
section
variable {X : Cx} {elt iter : Expr} {ifs : List Expr} {scope : Scope} {own : List (Str × Nat)} {x y : Str} {px py pos spos : Pos} {i j l : Nat} {ts tt' te : TE} {tt : TT}
theorem cLcD_in {vs : List Nat} {σ : L2.St} {H : Hp} {Q : VK} (h : cLcD X j i (mTT tt) (mTE te) vs σ H Q) :
    ∃ d u, H d = some u ∧ Mut (some u) ∧ ∀ od, tLc (iKeysS X (tVar j)) (gName i) (mTT tt) (mTE te) vs σ (upd H d (.frz od u)) fun v H' => H' d = some (.frz od u) ∧ Q v (upd H' d u) := by
  obtain ⟨d, es, hj, hd, hl, hi, R, r0, rk, rt, rd⟩ := h
  refine ⟨d, _, hd, True.intro, fun od => ⟨.ref d, hj, d, od, es, rfl, upd_same, fun D hD => ?_⟩⟩
  have hDd : D ≠ d := fun e => by
    rw [e, upd_same] at hD
    exact nomatch hD
  have hD0 : H D = none := by
    rw [upd_ne hDd] at hD
    exact hD
  have kl : Kp H (upd H d (.frz od (dicO X.prog X.w d es))) := frz_kp hd fun z => z
  refine lc_keysS (fun k H2 => ∃ acc, H2 D = some (.lst acc) ∧ acc.length ≤ k ∧ H2 d = some (.frz od (dicO X.prog X.w d es)) ∧ (∀ b o, b ≠ d → H b = some o → H2 b = some o) ∧ R k acc H2)
    ⟨[], upd_same, Nat.le_refl _, ?_, fun b o hb e => ?_, rk _ _ _ _ (kl.trans (Kp.new hD)) r0⟩ (fun k H2 ⟨_, _, _, z, _⟩ => z) (fun k e H2 he ⟨acc, a1, a2, a3, a4, a5⟩ => ?_) fun H2 ⟨acc, a1, _, a3, a4, a5⟩ => ⟨a3, ?_⟩
  · rw [upd_ne (Ne.symm hDd), upd_same]
  · rw [upd_ne (fun z => by rw [z, hD0] at e; exact nomatch e), upd_ne hb]
    exact e
  · have hk : k < es.length := (List.getElem?_eq_some_iff.mp he).1
    refine ⟨wipe_set hi, (rt k e H2 acc he a5 (.inr ⟨od, a3⟩) a4).imp fun b H3 q => ?_⟩
    cases b with
    | true =>
      refine iteT ?_
      have q2 : mTE te ((wipe σ vs).set i (some (.ref e.2.1))) H3 fun y H4 => Same H2 H4 ∧ R (k + 1) (acc ++ [y]) H4 := by simpa using q
      refine q2.imp fun y H4 z => ?_
      have d4 := z.1 _ _ a1
      refine ⟨acc, d4, small1000 (by omega), _, upd_same, by simp; omega, ?_, fun b o hb eb => ?_, rk _ _ _ _ (Kp.lst d4) z.2⟩
      · rw [upd_ne (Ne.symm hDd)]
        exact z.1 _ _ a3
      · rw [upd_ne (fun zz => by rw [zz, hD0] at eb; exact nomatch eb)]
        exact z.1 _ _ (a4 b o hb eb)
    | false =>
      refine iteF ?_
      have q2 : Same H2 H3 ∧ R (k + 1) acc H3 := by simpa using q
      exact ⟨acc, q2.1 _ _ a1, by omega, q2.1 _ _ a3, fun b o hb eb => q2.1 _ _ (a4 b o hb eb), q2.2⟩
  · refine rd D acc _ hD0 (fun b o e => ?_) ?_ (rk _ _ _ _ (Kp.put a3 fun z => z) a5)
    · by_cases hb : b = d
      · subst hb
        rw [hd] at e
        cases e
        exact upd_same
      · rw [upd_ne hb]
        exact a4 b o hb e
    · rw [upd_ne hDd]
      exact a1
theorem ce_lcD {pi_ : Pos} (hc : X.calm = true) (hN : X.N.Nodup) (hj : X.N[j]? = some y) (hv : Vis X.env.scope y) (ok : BlkOk X.N X.env.scope scope own)
    (hg : ∀ (s : Shared) (H : Hp) (C : Addr) (cl : List (Str × Addr)) (fp : List Addr), PG (X.blk s H scope (compEnvC scope cl C X.env) fp) (.Name x px) (gName i))
    (ht : ∀ (s : Shared) (H : Hp) (C : Addr) (cl : List (Str × Addr)) (fp : List Addr), PTs (X.blk s H scope (compEnvC scope cl C X.env) fp) ifs tt)
    (he : ∀ (s : Shared) (H : Hp) (C : Addr) (cl : List (Str × Addr)) (fp : List Addr), PE (X.blk s H scope (compEnvC scope cl C X.env) fp) elt te)
    (hd : (y == ("__debug__" : Str)) = false := by decide) (hcd : (y == ("__classdict__" : Str)) = false := by decide) (hs : ∀ x, foldedSetIterable (.Name y pi_) X.env x = pure x := by intro _; rfl) :
    PE X (.ListComp elt [⟨.Name x px, .Name y pi_, ifs, 0⟩] scope pos) (cLcD X j i (mTT tt) (mTE te) (own.map (·.2))) :=
  pe_imp (t := tLockE (tLc (iKeysS X (tVar j)) (gName i) (mTT tt) (mTE te) (own.map (·.2)))) (fun _ _ _ q => cLcD_in q)
    (pe_lock (pe_lc hc hN (pi_keysS (pe_var hj hv hd hcd)) ok hg (fun _ _ _ _ _ => pts_m (ht _ _ _ _ _)) (fun _ _ _ _ _ => pe_m (he _ _ _ _ _)) hs))
/-- z = [..], z a local -/
theorem cs_lcD {z : Str} {pz pi_ : Pos} (hc : X.calm = true) (hN : X.N.Nodup) (hz : X.N[l]? = some z) (hzl : X.env.scope.names.lookup z = some .local)
    (hsw : swapsWith (.ListComp elt [⟨.Name x px, .Name y pi_, ifs, 0⟩] scope pos) (some (.Name z pz)) spos.line X.env = pure true) (hj : X.N[j]? = some y) (hv : Vis X.env.scope y) (ok : BlkOk X.N X.env.scope scope own)
    (hg : ∀ (s : Shared) (H : Hp) (C : Addr) (cl : List (Str × Addr)) (fp : List Addr), PG (X.blk s H scope (compEnvC scope cl C X.env) fp) (.Name x px) (gName i))
    (ht : ∀ (s : Shared) (H : Hp) (C : Addr) (cl : List (Str × Addr)) (fp : List Addr), PTs (X.blk s H scope (compEnvC scope cl C X.env) fp) ifs tt)
    (he : ∀ (s : Shared) (H : Hp) (C : Addr) (cl : List (Str × Addr)) (fp : List Addr), PE (X.blk s H scope (compEnvC scope cl C X.env) fp) elt te)
    (hd : (y == ("__debug__" : Str)) = false := by decide) (hcd : (y == ("__classdict__" : Str)) = false := by decide) (hs : ∀ x, foldedSetIterable (.Name y pi_) X.env x = pure x := by intro _; rfl) :
    PS X (.Assign [.Name z pz] (.ListComp elt [⟨.Name x px, .Name y pi_, ifs, 0⟩] scope pos) spos) (tAsg (cLcD X j i (mTT tt) (mTE te) (own.map (·.2))) (gName l)) :=
  ps_imp (t := tLock (tAsg (tLc (iKeysS X (tVar j)) (gName i) (mTT tt) (mTE te) (own.map (·.2))) (gName l))) (fun D σ H q => by
    have q2 : cLcD X j i (mTT tt) (mTE te) (own.map (·.2)) σ H (fun x H1 => D.nx (σ.set l (some x)) H1) := q
    exact cLcD_in q2)
    (ps_lock (ps_setLc hc hN hz hzl hsw (pi_keysS (pe_var hj hv hd hcd)) ok hg (fun _ _ _ _ _ => pts_m (ht _ _ _ _ _)) (fun _ _ _ _ _ => pe_m (he _ _ _ _ _)) hs))
end
end Lh
set_option Elab.async false
set_option linter.all false
set_option maxRecDepth 100000
set_option maxHeartbeats 4000000
/-! Operators on an own instance: o - t, o + t (t a tuple), x in o, len(o). -/
namespace Lh
open PySem PySem.Spec PyProof.Rows L2
section
variable {X : Cx} {pins : List (Addr × Obj)} {σ : L2.St} {H : Hp} {s : Shared} {C g : Addr} {k : Nat} {sp : Sp}
theorem relV_ni {v : V} {u : Value} {Q : Value → Shared → Prop} {s : Shared} (r : RelV v u) (q : Q u s) : PySem.W.CmpBack Q u s := by
  cases v with
  | non => cases r; exact q
  | bl _ => cases r; exact q
  | int _ => obtain ⟨t, rfl⟩ := r; exact q
  | str _ => obtain ⟨t, rfl⟩ := r; exact q
  | byt _ => obtain ⟨t, rfl⟩ := r; exact q
  | flt _ => obtain ⟨t, rfl⟩ := r; exact q
  | ref _ => cases r; exact q
  | ty _ => cases r; exact q
/-- o op t, o an instance of C with its own method, t a tuple -/
theorem own_bin {op : Operator} {x b L : Addr} {h0 : Heap} {m : Str → Option Value} {ox : Obj} {od : Option Obj} {fo ro rc : Option Value} {K : PySem.W.Frag} {prog : Program} {w : World} {A : Around} {E Q : Value → Shared → Prop} (F : Fr h0 L s.heap m) (X0 : K.In h0) (I : PySem.W.InstAt s.heap x ox C od)
    (hb : ∃ o, s.heap.get? b = some o ∧ o.cls = .type "tuple") (hc : PySem.W.selfFirst K C = true)
    (hs : PySem.W.findIn K (.ref C) (PySem.dunder op.info.2) = some (some (.ref g))) (hf : PySem.W.isFn K (.ref g) = true) (hr : PySem.W.findIn K (.ref C) (dunderR op.info.2) = some rc) (hp : rc = none ∨ ∃ g : Addr, rc = some (.ref g))
    (h1 : PySem.W.findIn K (.type "tuple") (PySem.dunder op.info.2) = some fo) (h2 : PySem.W.findIn K (.type "tuple") (dunderR op.info.2) = some ro) (hsub : PySem.W.subIn K (.type "tuple") (.ref C) = some false)
    (h : wpAny (model prog w) A (call (.ref g) [.ref x, .ref b]) (PySem.W.CmpBack Q) E s) : wpAny (model prog w) A (binaryOp op (.ref x) (.ref b)) Q E s := by
  have KX := X0.keeps F.keep
  obtain ⟨cd, rest, hcd, hm⟩ := PySem.W.ksp_first hc
  rcases hi : op.info with ⟨sym, nm⟩
  rw [hi] at hs hr h1 h2
  dsimp only at hs hr h1 h2
  have one := PySem.W.ksp_try KX I hs hf h
  obtain ⟨ob, hob, hoc⟩ := hb
  obtain ⟨hh, gg, d, tk, os⟩ := s
  have a1 : PySem.W.Looks (model prog w) hh (typeOf (.ref x)) (.ref C) := I.type
  have a2 : PySem.W.Looks (model prog w) hh (typeOf (.ref b)) (.type "tuple") := by
    rw [← hoc]
    exact (PySem.W.Looks.ld hob).andThen .now
  have a3 : PySem.W.Looks (model prog w) hh (fillsNumberSlot (.ref C) nm) true := PySem.W.fills_K KX hcd hm hs
  have a4 : PySem.W.Looks (model prog w) hh (fillsNumberSlot (.type "tuple") nm) ((fo.isSome && !isSeqSlot fo) || (ro.isSome && !isSeqSlot ro)) := PySem.W.ksp_fillsT KX h1 h2
  have a5 : PySem.W.Looks (model prog w) hh (isSubtype (.type "tuple") (.ref C)) false := PySem.W.looks_subIn KX hsub
  have a6 : PySem.W.Looks (model prog w) hh (numberSlotInPython (.ref C) nm) true := PySem.W.ksp_inPy KX hs hr hp
  have a7 : PySem.W.Looks (model prog w) hh (numberSlotInPython (.type "tuple") nm) false := PySem.W.Looks.of_pure rfl
  have a8 : PySem.W.Looks (model prog w) hh (typeLookup (.type "tuple") (dunderR nm)) ro := PySem.W.looks_findIn KX h2
  generalize ((fo.isSome && !isSeqSlot fo) || (ro.isSome && !isSeqSlot ro)) = right at a4
  have ne : (Value.ref C == Value.type "tuple") = false := Bool.eq_false_iff.mpr fun q => by
    have e := beq_iff_eq.mp q
    exact nomatch e
  simp only [binaryOp, hi]
  refine wpAny_holding (wpAny_bind ?_)
  unfold binaryOp1
  refine wpAny_bind (a1.at (wpAny_bind (a2.at (wpAny_bind (a3.at ?_)))))
  simp only [ne, Bool.false_eq_true, if_false]
  cases right <;>
  · ksp_lk
    refine wpAny_mono one (fun r s' z => ?_) fun _ _ e => e
    obtain ⟨v, rfl, hq⟩ := z
    ksp_lk
    exact hq
/-- what an own operator asks of the class -/
structure OwnOp (K : PySem.W.Frag) (C g : Addr) (op : Operator) : Prop where
  sf : PySem.W.selfFirst K C = true
  at_ : PySem.W.findIn K (.ref C) (PySem.dunder op.info.2) = some (some (.ref g))
  fn : PySem.W.isFn K (.ref g) = true
  no : PySem.W.findIn K (.ref C) (dunderR op.info.2) = some none
  t1 : ∃ fo, PySem.W.findIn K (.type "tuple") (PySem.dunder op.info.2) = some fo
  t2 : ∃ ro, PySem.W.findIn K (.type "tuple") (dunderR op.info.2) = some ro
  sub : PySem.W.subIn K (.type "tuple") (.ref C) = some false
def rOwn (C : Addr) (sp : Sp) : R2 := fun x y H Q => ∃ a dx fs b xs, x = .ref a ∧ y = .ref b ∧ H a = some (.ins C dx fs) ∧ H b = some (.tup xs) ∧ sp [x, y] H Q E0
theorem op_own {op : Operator} (c : OwnOp X.K C g op) (F : FnR X.prog X.w X.K X.mg X.base CX0 k g sp) (hr : Room k X.A) : OpR X (binaryOp op) (rOwn C sp) := by
  intro pins s σ H x y v u Q I rx ry h
  obtain ⟨a, dx, fs, b, xs, rfl, rfl, ha, hb2, q⟩ := h
  obtain rfl : v = Value.ref a := rx
  obtain rfl : u = Value.ref b := ry
  obtain ⟨mA, O, _⟩ := ins_get I.hok ha
  obtain ⟨od, J, _⟩ := O.look
  obtain ⟨_, its, r, o, h1, h2, n, h3⟩ := (show ObjOk X.prog X.w H s.heap b (.tup xs) from I.hok b _ hb2)
  obtain ⟨m, F0⟩ := I.fr
  obtain ⟨fo, e1⟩ := c.t1
  obtain ⟨ro, e2⟩ := c.t2
  refine own_bin F0 I.mod.kin J ⟨o, h1, h2⟩ c.sf c.at_ c.fn c.no (.inl rfl) e1 e2 c.sub ?_
  refine thn (wpAny_call (run_fnR (us := [.ref a, .ref b]) (vs := [.ref a, .ref b]) F hr pass0 I (.cons rfl (.cons rfl .nil)) q)) fun u s' z => ?_
  obtain ⟨v, H', I', r', q'⟩ := z
  exact relV_ni r' ⟨v, H', I', r', q'⟩
/-- x in o -/
def rOwnIn (C : Addr) (sp : Sp) (neg : Bool) : R2 := fun x y H Q => ∃ a dx fs, y = .ref a ∧ H a = some (.ins C dx fs) ∧ sp [y, x] H (fun v H' => ∃ b, v = .bl b ∧ Q (.bl (if neg = true then !b else b)) H') E0
theorem op_ownIn (c : Meth X.K C "__contains__" g) (F : FnR X.prog X.w X.K X.mg X.base CX0 k g sp) (hr : Room k X.A) : OpR X (compareOp .In) (rOwnIn C sp false) := by
  intro pins s σ H x y v u Q I rx ry h
  obtain ⟨a, dx, fs, rfl, ha, q⟩ := h
  obtain rfl : u = Value.ref a := ry
  obtain ⟨mA, O, _⟩ := ins_get I.hok ha
  obtain ⟨od, J, _⟩ := O.look
  obtain ⟨m, F0⟩ := I.fr
  refine PySem.W.in_K F0 I.mod.kin J c.at_ c.fn ?_
  refine thn (wpAny_call (run_fnR (us := [.ref a, v]) (vs := [.ref a, x]) F hr pass0 I (.cons rfl (.cons rx .nil)) q)) fun u s' ⟨w', H', I', r', b, e, q'⟩ => ?_
  subst e
  cases r'
  exact wpAny_truthy_bool ⟨.bl b, H', I', rfl, q'⟩
theorem op_ownNotIn (c : Meth X.K C "__contains__" g) (F : FnR X.prog X.w X.K X.mg X.base CX0 k g sp) (hr : Room k X.A) : OpR X (compareOp .NotIn) (rOwnIn C sp true) := by
  intro pins s σ H x y v u Q I rx ry h
  obtain ⟨a, dx, fs, rfl, ha, q⟩ := h
  obtain rfl : u = Value.ref a := ry
  obtain ⟨mA, O, _⟩ := ins_get I.hok ha
  obtain ⟨od, J, _⟩ := O.look
  obtain ⟨m, F0⟩ := I.fr
  refine PySem.W.notIn_K F0 I.mod.kin J c.at_ c.fn ?_
  refine thn (wpAny_call (run_fnR (us := [.ref a, v]) (vs := [.ref a, x]) F hr pass0 I (.cons rfl (.cons rx .nil)) q)) fun u s' ⟨w', H', I', r', b, e, q'⟩ => ?_
  subst e
  cases r'
  exact wpAny_truthy_bool ⟨.bl (!b), H', I', rfl, q'⟩
/-- the callee runs one level of the stack deeper -/
theorem run_fn1 {Q : VK} {us : List Value} {vs : List V} {E' : Value → Shared → Prop} (F : FnR X.prog X.w X.K X.mg X.base CX0 k g sp) (hr : Room (k + 1) X.A) (I : Inv X pins σ H s) (r : Vals vs us) (h : sp vs H Q E0) :
    wpAny (model X.prog X.w) X.A.in1 (call (.ref g) us) (EP X pins σ Q) E' s := by
  refine wpAny_call (codeAny_mono (F X.A.in1 X.stack s H us vs Q E0 hr.in1 I.env0.in1 r h) fun r s' hq => ?_)
  cases r with
  | error e => exact False.elim hq
  | ok fl =>
    cases fl with
    | ret u => exact I.after hq
    | next => exact False.elim hq
    | brk => exact False.elim hq
    | cont => exact False.elim hq
/-- len(o) -/
def rOwnLen (C : Addr) (sp : Sp) : List V → Hp → VK → Prop := fun xs H Q => ∃ a dx fs, xs = [.ref a] ∧ H a = some (.ins C dx fs) ∧ sp xs H (fun v H' => ∃ n : Nat, v = .int n ∧ n ≤ 1000 ∧ Q (.int n) H') E0
theorem call_ownLen (c : Meth X.K C "__len__" g) (F : FnR X.prog X.w X.K X.mg X.base CX0 k g sp) (hr : Room (k + 1) X.A) : CallR X (.builtin "len") (rOwnLen C sp) := by
  intro pins s σ H xs us Q I r h
  obtain ⟨a, dx, fs, rfl, ha, q⟩ := h
  cases r with
  | cons r1 r2 =>
    cases r2
    obtain rfl := r1
    obtain ⟨mA, O, _⟩ := ins_get I.hok ha
    obtain ⟨od, J, _⟩ := O.look
    obtain ⟨m, F0⟩ := I.fr
    refine PySem.W.len_K F0 I.mod.kin J c.at_ c.fn ?_
    refine thn (run_fn1 (us := [.ref a]) (vs := [.ref a]) F hr I (.cons rfl .nil) q) fun u s' ⟨w', H', I', r', n, e, hn, q'⟩ => ?_
    subst e
    obtain ⟨t, rfl⟩ := r'
    exact ⟨⟨by omega, by omega⟩, .int n, H', I'.tok _, ⟨_, rfl⟩, q'⟩
end
end Lh
set_option Elab.async false
set_option linter.all false
set_option maxRecDepth 100000
set_option maxHeartbeats 4000000
/-! set(xs) of a list: of ints; of tuples of ints, few of them different. -/
namespace Lh
open PySem PySem.Spec PyProof.Rows L2
section
variable {P : Program} {w : World} {A : Around} {E : Value → Shared → Prop} {s : Shared}
/-- a set that was just made -/
abbrev newSetO (w : World) : Obj := { cls := .type "set", dict := none, data := .set #[] 0 (.fresh 0 0 (!w.params.followText "set-order")) }
abbrev itO (l : Addr) : Obj := { cls := .type "list_iterator", data := .fields #[.ref l, .int 0 0] }
set_option maxHeartbeats 8000000 in
/-- set(xs), xs a list: whatever the update's loop brings about -/
theorem set_list_any {l : Addr} {items : Array Value} {Z : Heap → Prop} {Q : Value → Shared → Prop} (hh : A.handled = none) (hl : s.heap.IsList l items)
    (upd : ∀ (I : Addr) (G : Array GenState → Array GenState → Prop) (R : Result → Shared → Prop) (s1 : Shared), s1.heap = (s.heap.push (newSetO w)).push (itO l) → I = s.heap.objs.size + 1 →
      WalksS P w A.in1.in1.in1 I [I, l] [I] G items.size (fun i v => items[i]? = some v) (fun i s => s.heap.IsListIter I l i ∧ s.heap.IsList l items) →
      (∀ s', Moved [s.heap.objs.size, I] G s1 s' → Z s'.heap → R (.ok (.ret .none)) s') → codeAny (model P w) A.in1.in1 (.builtin "set.update.loop" ⟨[.ref s.heap.objs.size, .ref I], []⟩) R s1)
    (h : ∀ (h' : Heap) (tk : Nat), Z h' → (∀ b o, s.heap.get? b = some o → h'.get? b = some o) → Q (.ref s.heap.objs.size) { s with heap := h', toks := tk }) :
    wpAny (model P w) A (call (.type "set") [.ref l]) Q E s := by
  obtain ⟨c, tl, mro⟩ := F.called_set.mro
  have made := F.called_set.made
  have sub := F.called_set.sub
  refine wpAny_call (codeAny_of_tree ?_)
  show wpAny _ _ (callAny (.type "set") _) _ _ _
  refine wpAny_pure ⟨Code.quiet_builtin _ (by decide +kernel), codeAny_builtin F.entry_type_call ?_⟩
  rw [Around.under_plain (weight_type_call_type "set" [.ref l] []) rfl]
  have k1 := F.called_set.notType
  have k2 := F.called_set.canCreate
  have k3 := F.typeCall_set_1 (.ref l)
  repeat (any_goals (first | assumption | wp_step))
  generalize hS0 : s.heap.objs.size = S at upd h
  refine codeAny_mono (code_set_led1 (.ref l) (E := E) (Q₁ := fun o s₁ => o = .ref S ∧ s₁ = { s with heap := s.heap.push (newSetO w) }) ⟨by rw [hS0], rfl⟩) fun r s₁ hr => ?_
  cases r with
  | error e => exact hr
  | ok fl =>
    cases fl with
    | next => exact hr.elim
    | brk => exact hr.elim
    | cont => exact hr.elim
    | ret ob =>
      obtain ⟨rfl, rfl⟩ := hr
      have hS : (s.heap.push (newSetO w)).get? S = some (newSetO w) := by rw [← hS0]; exact Heap.get?_push_size _ rfl
      have hT : Shared.TypeIs { s with heap := s.heap.push (newSetO w) } (.ref S) "set" := ⟨_, hS, rfl⟩
      have k4 := F.called_set.init.lookup
      have k5 := F.called_set.init.bind (.ref S)
      repeat (any_goals (first | assumption | wp_step))
      refine codeAny_mono (codeAny_call_builtin (R := wants (fun r s₂ => r = .none ∧ ∃ h' tk, s₂ = { s with heap := h', toks := tk } ∧ Z h' ∧ (∀ b o, s.heap.get? b = some o → h'.get? b = some o)) E)
        F.called_set.init.plain F.entry_set_init (check_set_init_1 hT ?_)) fun r₂ s₂ hr₂ => ?_
      · obtain ⟨⟨oc, od, dt, osl⟩, ho, hc, nl, hd⟩ := hl
        simp only at hc hd
        subst hc hd
        have ho' : (s.heap.push (newSetO w)).get? l = some { cls := .type "list", dict := od, data := .seq items nl, slots := osl } := Heap.get?_push_of_some _ ho
        have k6 := F.sub_list_set
        have k7 := F.sub_list_frozenset
        have k8 : (Value.type "list" == Value.type "dict") = false := by decide
        have hl1 : (s.heap.push (newSetO w)).IsList l items := ⟨_, ho', rfl, nl, rfl⟩
        unfold Builtin.«set.__init__» noKeywords Builtin.Frozenset.updateFrom
        generalize hPI : pyIter = PI
        wp_walk
        subst hPI
        refine wpAny_pyIter_list hl1 (wpAny_bind (wpAny_runValue ?_))
        have lS : l < S := by rw [← hS0]; exact Heap.lt_size ho
        have sz : (s.heap.push (newSetO w)).objs.size = S + 1 := by rw [Heap.size_push, hS0]
        rw [sz]
        have ne : l ≠ S + 1 := Nat.ne_of_lt (Nat.lt_succ_of_lt lS)
        refine upd (S + 1) _ _ { s with heap := (s.heap.push (newSetO w)).push (itO l) } rfl rfl ((Walks.list (by simp [hh]) (S + 1) l ne items).toS) fun s' hm z => ?_
        obtain ⟨h', g2, d', tk', os'⟩ := s'
        have e1 : g2 = s.gens := hm.gens
        have e2 : d' = s.drawn := hm.drawn
        have e3 : os' = s.os := hm.os
        subst e1 e2 e3
        show wpAny _ _ _ _ _ _
        refine wpAny_pure ?_
        show wpAny _ _ (ret Value.none) _ _ _
        refine wpAny_pure ⟨rfl, h', tk', rfl, z, fun b o e => ?_⟩
        have b0 : b < S := by rw [← hS0]; exact Heap.lt_size e
        refine hm.heap b o (fun q => ?_) (Heap.get?_push_of_some _ (Heap.get?_push_of_some _ e))
        rcases List.mem_cons.mp q with q | q
        · exact absurd q (Nat.ne_of_lt b0)
        · exact absurd (List.mem_singleton.mp q) (Nat.ne_of_lt (Nat.lt_succ_of_lt b0))
      · cases r₂ with
        | error e => exact hr₂
        | ok fl₂ =>
          cases fl₂ with
          | ret r =>
            obtain ⟨rfl, h', tk, rfl, z, hk⟩ := hr₂
            repeat (any_goals (first | assumption | wp_step))
            exact h h' tk z hk
          | next => exact hr₂.elim
          | brk => exact hr₂.elim
          | cont => exact hr₂.elim
end
end Lh
set_option Elab.async false
set_option linter.all false
set_option maxRecDepth 100000
set_option maxHeartbeats 4000000
namespace Lh
open PySem PySem.Spec PyProof.Rows L2
section
variable {P : Program} {w : World} {A : Around} {E : Value → Shared → Prop} {s : Shared}
theorem addr_none {h : Heap} {b : Addr} (hb : h.objs.size ≤ b) : h.get? b = none := by
  cases q : h.get? b with
  | none => rfl
  | some o => exact absurd (Nat.lt_of_lt_of_le (Heap.lt_size q) hb) (Nat.lt_irrefl _)
/-- set(xs), ints -/
theorem set_list_ints {l : Addr} {items : Array Value} (ns : List Int) {Q : Value → Shared → Prop} (hh : A.handled = none) (hl : s.heap.IsList l items) (hit : IntsAre items.toList ns) (hb : ns.length + 1 < scanBound)
    (h : ∀ (h' : Heap) (tk c : Nat), SetR w h' s.heap.objs.size (fun j => decide (j ∈ ns)) c → c ≤ ns.length → (∀ b o, s.heap.get? b = some o → h'.get? b = some o) → Q (.ref s.heap.objs.size) { s with heap := h', toks := tk }) :
    wpAny (model P w) A (call (.type "set") [.ref l]) Q E s := by
  have sz : items.size = ns.length := by
    have q := IntsAre.length hit
    rw [Array.length_toList] at q
    exact q
  have lS : l < s.heap.objs.size := by
    obtain ⟨o, ho, _⟩ := hl
    exact Heap.lt_size ho
  refine set_list_any (Z := fun h' => ∃ c, c ≤ ns.length ∧ SetR w h' s.heap.objs.size (fun j => decide (j ∈ ns)) c) hh hl (fun I G R s1 e1 e2 W fin => ?_) fun h' tk ⟨c, z1, z2⟩ kp => h h' tk c z2 z1 kp
  have nf : s.heap.objs.size ∉ [I, l] := by
    rw [e2]
    simp only [List.mem_cons, List.mem_singleton, List.not_mem_nil, or_false, not_or]
    exact ⟨Nat.ne_of_lt (Nat.lt_succ_self _), Nat.ne_of_gt lS⟩
  have val : ∀ (i : Nat) (v : Value), items[i]? = some v → ∃ k t, ns[i]? = some k ∧ v = .int k t := fun i v hv => by
    have hi : i < ns.length := by rw [← sz]; exact (Array.getElem?_eq_some_iff.mp hv).1
    obtain ⟨t, e⟩ := PyProof.Rows.IntsAre.int_at hit i v (by rw [Array.getElem?_toList]; exact hv)
    refine ⟨ns[i], t, List.getElem?_eq_getElem hi, ?_⟩
    rw [e, List.getD_eq_getElem?_getD, List.getElem?_eq_getElem hi]
    rfl
  have g1 : s1.heap.get? s.heap.objs.size = some (newSetO w) := by
    rw [e1]
    exact Heap.get?_push_of_some _ (Heap.get?_push_size _ rfl)
  have gI : s1.heap.get? I = some (itO l) := by
    rw [e1, e2, ← Heap.size_push s.heap (newSetO w)]
    exact Heap.get?_push_size _ rfl
  refine set_update_ints W s.heap.objs.size nf ns sz hb val (items.size - 0) 0 s1 (by omega) (Nat.zero_le _) ⟨⟨_, gI, rfl, rfl⟩, ?_⟩ ⟨0, Nat.le_refl 0, setR_new_at g1⟩ fun s' c hm hc hS => fin s' hm ⟨c, by omega, hS⟩
  rw [e1]
  exact (hl.push _).push _
/-- at most so many different ones -/
def FewK (ks : List (Addr × List Int)) : Prop := ∀ D : List (List Int), D.Nodup → (∀ k ∈ D, k ∈ ks.map (·.2)) → D.length < 63
theorem set_upd_few {I : Addr} {fp wr : List Addr} {G : Array GenState → Array GenState → Prop} {n : Nat} {Pv : Nat → Value → Prop} {St : Nat → Shared → Prop} {R : Result → Shared → Prop}
    (W : WalksS P w A.in1 I fp wr G n Pv St) (S : Addr) (nf : S ∉ fp) (ks : List (Addr × List Int)) (hn : n = ks.length) (few : FewK ks) (val : ∀ i v, Pv i v → ∃ p, ks[i]? = some p ∧ v = .ref p.1)
    (h0 : Heap) (hk : ∀ p ∈ ks, IsT P w h0 p.2 p.1) (S0 : h0.get? S = none) (w0 : ∀ b ∈ wr, h0.get? b = none) (hu : A.in1.units < cLine) :
    ∀ (d i : Nat) (s : Shared), n - i = d → i ≤ n → St i s → (∀ b o, h0.get? b = some o → s.heap.get? b = some o) → (∃ L es ep t, SetTR P w s.heap S L es ep t ∧ Got ks i L) →
      (∀ s' L es ep t, Moved (S :: wr) G s s' → SetTR P w s'.heap S L es ep t → Got ks n L → (∀ b o, h0.get? b = some o → s'.heap.get? b = some o) → R (.ok (.ret .none)) s') →
      codeAny (model P w) A (.builtin "set.update.loop" ⟨[.ref S, .ref I], []⟩) R s := by
  have nw : S ∉ wr := fun z => nf (W.sub _ z)
  have up : ∀ b ∈ wr, b ∈ S :: wr := fun b z => List.mem_cons_of_mem _ z
  have old : ∀ {a b : Shared}, Moved wr G a b → (∀ c o, h0.get? c = some o → a.heap.get? c = some o) → ∀ c o, h0.get? c = some o → b.heap.get? c = some o := fun m kp c o e =>
    m.heap c o (fun z => by rw [w0 c z] at e; exact nomatch e) (kp c o e)
  intro d
  induction d with
  | zero =>
    intro i s hd hi st kp ⟨L, es, ep, t, hS, g⟩ fin
    obtain rfl : i = n := by omega
    refine codeAny_builtin F.entry_set_update_loop ?_
    rw [Around.under_plainId F.plain_set_update_loop _]
    show wpAny _ A.in1 (pyNext (.ref I) >>= _) _ _ s
    refine wpAny_bind (W.done s _ _ st fun s' m => ?_)
    show wpAny _ A.in1 (ret Value.none) _ _ s'
    have kp2 := old m kp
    exact wpAny_pure (fin s' L es ep t (m.mono up) (hS.keep (fun o e => m.heap S o nw e) fun p hp => isT_keep (hk p (List.mem_of_mem_take (g.sub p hp))) kp2) g kp2)
  | succ d ih =>
    intro i s hd hi st kp ⟨L, es, ep, t, hS, g⟩ fin
    have lt : i < n := by omega
    refine codeAny_builtin F.entry_set_update_loop ?_
    rw [Around.under_plainId F.plain_set_update_loop _]
    show wpAny _ A.in1 (pyNext (.ref I) >>= _) _ _ s
    refine wpAny_bind (W.item i s _ _ lt st fun v s1 hP st1 m => ?_)
    obtain ⟨p, hp, rfl⟩ := val i v hP
    have kp1 := old m kp
    have inks : ∀ q ∈ L, q ∈ ks := fun q hq => List.mem_of_mem_take (g.sub q hq)
    have hS1 : SetTR P w s1.heap S L es ep t := hS.keep (fun o e => m.heap S o nw e) fun q hq => isT_keep (hk q (inks q hq)) kp1
    have hx : IsT P w s1.heap p.2 p.1 := isT_keep (hk p (List.mem_of_getElem? hp)) kp1
    have small : L.length < 63 := by
      have z := few (L.map (·.2)) hS1.nd fun k hk => by
        obtain ⟨q, hq, rfl⟩ := List.mem_map.mp hk
        exact List.mem_map.mpr ⟨q, inks q hq, rfl⟩
      simpa using z
    show wpAny _ A.in1 (holding [Value.ref p.1] (setAdd S (.ref p.1)) >>= _) _ _ s1
    refine wpAny_bind (wpAny_holding ?_)
    unfold setAdd
    refine wpAny_holding (wpAny_bind (wpAny_pyHash_tuple hu hx ?_))
    refine add_at (s := { s1 with toks := s1.toks + (p.2.length + 1) }) hS1 hx hu (by omega) fun b h2 L2 es2 ep2 t2 sb hS2 c1 c2 => ?_
    have g2 : Got ks (i + 1) L2 := by
      by_cases c : p.2 ∈ L.map (·.2)
      · rw [c1 c]
        exact g.same hp c
      · exact g.more hp (c2 c)
    have kp2 : ∀ b o, h0.get? b = some o → h2.get? b = some o := fun b o e => (sb.2 b (fun z => by rw [z, S0] at e; exact nomatch e)).trans (kp1 b o e)
    refine wpAny_pure ⟨plainId_quiet F.plain_set_update_loop _, ih (i + 1) _ (by omega) lt (W.frame _ s1 _ _ st1 (Nat.le_add_right _ _) fun b hb o e => ?_) kp2 ⟨L2, es2, ep2, t2, hS2, g2⟩ fun s3 L3 es3 ep3 t3 m3 hS3 g3 kp3 => ?_⟩
    · rw [sb.2 b (fun z : b = S => nf (by rw [← z]; exact hb))]
      exact e
    · refine fin s3 L3 es3 ep3 t3 (Moved.trans W.gtrans ((m.mono up).then_heap (Nat.le_add_right _ _) fun b o hb e => ?_) m3) hS3 g3 kp3
      rw [sb.2 b (fun z : b = S => hb (by rw [z]; exact List.mem_cons_self))]
      exact e
theorem set_list_few {l : Addr} {items : Array Value} (ks : List (Addr × List Int)) {Q : Value → Shared → Prop} (hh : A.handled = none) (hl : s.heap.IsList l items) (hit : items.toList = ks.map fun p => Value.ref p.1)
    (hk : ∀ p ∈ ks, IsT P w s.heap p.2 p.1) (few : FewK ks) (hu : A.units + 3 < cLine)
    (h : ∀ (h' : Heap) (tk : Nat) L es ep t, SetTR P w h' s.heap.objs.size L es ep t → Got ks ks.length L → (∀ b o, s.heap.get? b = some o → h'.get? b = some o) → Q (.ref s.heap.objs.size) { s with heap := h', toks := tk }) :
    wpAny (model P w) A (call (.type "set") [.ref l]) Q E s := by
  have sz : items.size = ks.length := by
    have q := congrArg List.length hit
    rw [Array.length_toList, List.length_map] at q
    exact q
  have lS : l < s.heap.objs.size := by
    obtain ⟨o, ho, _⟩ := hl
    exact Heap.lt_size ho
  refine set_list_any (Z := fun h' => ∃ L es ep t, SetTR P w h' s.heap.objs.size L es ep t ∧ Got ks ks.length L) hh hl (fun I G R s1 e1 e2 W fin => ?_) fun h' tk ⟨L, es, ep, t, z1, z2⟩ kp => h h' tk L es ep t z1 z2 kp
  have nf : s.heap.objs.size ∉ [I, l] := by
    rw [e2]
    simp only [List.mem_cons, List.mem_singleton, List.not_mem_nil, or_false, not_or]
    exact ⟨Nat.ne_of_lt (Nat.lt_succ_self _), Nat.ne_of_gt lS⟩
  have val : ∀ (i : Nat) (v : Value), items[i]? = some v → ∃ p, ks[i]? = some p ∧ v = .ref p.1 := fun i v hv => by
    have q : items.toList[i]? = some v := by rw [Array.getElem?_toList]; exact hv
    rw [hit, List.getElem?_map] at q
    obtain ⟨p, hp, e⟩ := Option.map_eq_some_iff.mp q
    exact ⟨p, hp, e.symm⟩
  have g1 : s1.heap.get? s.heap.objs.size = some (newSetO w) := by
    rw [e1]
    exact Heap.get?_push_of_some _ (Heap.get?_push_size _ rfl)
  have gI : s1.heap.get? I = some (itO l) := by
    rw [e1, e2, ← Heap.size_push s.heap (newSetO w)]
    exact Heap.get?_push_size _ rfl
  have kp1 : ∀ b o, s.heap.get? b = some o → s1.heap.get? b = some o := fun b o e => by
    rw [e1]
    exact Heap.get?_push_of_some _ (Heap.get?_push_of_some _ e)
  refine set_upd_few W s.heap.objs.size nf ks sz few val s.heap hk (addr_none (Nat.le_refl _)) (fun b hb => addr_none (by
      rw [List.mem_singleton.mp hb, e2]
      exact Nat.le_succ _)) hu (items.size - 0) 0 s1 (by omega) (Nat.zero_le _) ⟨⟨_, gI, rfl, rfl⟩, ?_⟩ kp1 ⟨[], #[], 0, _, setTR_fresh g1, Got.zero ks⟩ fun s' L es ep t hm hS g kp => fin s' hm ⟨L, es, ep, t, hS, by rw [← sz]; exact g⟩
  rw [e1]
  exact (hl.push _).push _
end
end Lh
set_option Elab.async false
set_option linter.all false
set_option maxRecDepth 100000
set_option maxHeartbeats 4000000
/-! The text by places; what the top leaves: facts by names. -/
namespace Lh
open PySem PySem.Spec PyProof.Rows L2
def top (i : Nat) : Stmt := PySem.Challenge.pw_latehelm_k44_whole_mends_put_to_work.main.body.getD i (.Pass ⟨0, 0, 0, 0⟩)
abbrev s_is_between : Stmt := top 20
abbrev n_is_between : List Str := ["thing", "low", "high"]
theorem sc_is_between : FnScope n_is_between ["thing", "low", "high"] (defScope s_is_between) := ⟨rfl, rfl, rfl, by decide +kernel, rfl, by decide +kernel, by decide +kernel⟩
abbrev s_are_ascending : Stmt := top 21
abbrev n_are_ascending : List Str := ["thing", "many", "one"]
theorem sc_are_ascending : FnScope n_are_ascending ["thing", "many"] (defScope s_are_ascending) := ⟨rfl, rfl, rfl, by decide +kernel, rfl, by decide +kernel, by decide +kernel⟩
abbrev s_are_moves : Stmt := top 22
abbrev n_are_moves : List Str := ["thing", "row", "answers"]
theorem sc_are_moves : FnScope n_are_moves ["thing"] (defScope s_are_moves) := ⟨rfl, rfl, rfl, by decide +kernel, rfl, by decide +kernel, by decide +kernel⟩
abbrev s_is_place : Stmt := top 23
abbrev n_is_place : List Str := ["plant", "thing"]
theorem sc_is_place : FnScope n_is_place ["plant", "thing"] (defScope s_is_place) := ⟨rfl, rfl, rfl, by decide +kernel, rfl, by decide +kernel, by decide +kernel⟩
abbrev s_is_order : Stmt := top 24
abbrev n_is_order : List Str := ["plant", "thing"]
theorem sc_is_order : FnScope n_is_order ["plant", "thing"] (defScope s_is_order) := ⟨rfl, rfl, rfl, by decide +kernel, rfl, by decide +kernel, by decide +kernel⟩
abbrev s_need_plant : Stmt := top 25
abbrev n_need_plant : List Str := ["thing"]
theorem sc_need_plant : FnScope n_need_plant ["thing"] (defScope s_need_plant) := ⟨rfl, rfl, rfl, by decide +kernel, rfl, by decide +kernel, by decide +kernel⟩
abbrev s_need_place : Stmt := top 26
abbrev n_need_place : List Str := ["plant", "thing"]
theorem sc_need_place : FnScope n_need_place ["plant", "thing"] (defScope s_need_place) := ⟨rfl, rfl, rfl, by decide +kernel, rfl, by decide +kernel, by decide +kernel⟩
abbrev s_need_order : Stmt := top 27
abbrev n_need_order : List Str := ["plant", "thing"]
theorem sc_need_order : FnScope n_need_order ["plant", "thing"] (defScope s_need_order) := ⟨rfl, rfl, rfl, by decide +kernel, rfl, by decide +kernel, by decide +kernel⟩
abbrev s_is_triple : Stmt := top 28
abbrev n_is_triple : List Str := ["plant", "thing"]
theorem sc_is_triple : FnScope n_is_triple ["plant", "thing"] (defScope s_is_triple) := ⟨rfl, rfl, rfl, by decide +kernel, rfl, by decide +kernel, by decide +kernel⟩
abbrev s_answered : Stmt := top 29
abbrev n_answered : List Str := ["plant", "place", "order", "answers", "row"]
theorem sc_answered : FnScope n_answered ["plant", "place", "order", "answers"] (defScope s_answered) := ⟨rfl, rfl, rfl, by decide +kernel, rfl, by decide +kernel, by decide +kernel⟩
abbrev s_Plant_init : Stmt := inClass (top 31) 0
abbrev n_Plant_init : List Str := ["self", "moves", "bad", "goal", "marks", "place"]
theorem sc_Plant_init : FnScope n_Plant_init ["self", "moves", "bad", "goal"] (defScope s_Plant_init) := ⟨rfl, rfl, rfl, by decide +kernel, rfl, by decide +kernel, by decide +kernel⟩
abbrev s_Plant_moves : Stmt := inClass (top 31) 1
abbrev n_Plant_moves : List Str := ["self"]
theorem sc_Plant_moves : FnScope n_Plant_moves ["self"] (defScope s_Plant_moves) := ⟨rfl, rfl, rfl, by decide +kernel, rfl, by decide +kernel, by decide +kernel⟩
abbrev s_Plant_bad : Stmt := inClass (top 31) 2
abbrev n_Plant_bad : List Str := ["self"]
theorem sc_Plant_bad : FnScope n_Plant_bad ["self"] (defScope s_Plant_bad) := ⟨rfl, rfl, rfl, by decide +kernel, rfl, by decide +kernel, by decide +kernel⟩
abbrev s_Plant_goal : Stmt := inClass (top 31) 3
abbrev n_Plant_goal : List Str := ["self"]
theorem sc_Plant_goal : FnScope n_Plant_goal ["self"] (defScope s_Plant_goal) := ⟨rfl, rfl, rfl, by decide +kernel, rfl, by decide +kernel, by decide +kernel⟩
abbrev s_Plant_places : Stmt := inClass (top 31) 4
abbrev n_Plant_places : List Str := ["self"]
theorem sc_Plant_places : FnScope n_Plant_places ["self"] (defScope s_Plant_places) := ⟨rfl, rfl, rfl, by decide +kernel, rfl, by decide +kernel, by decide +kernel⟩
abbrev s_Plant_orders : Stmt := inClass (top 31) 5
abbrev n_Plant_orders : List Str := ["self"]
theorem sc_Plant_orders : FnScope n_Plant_orders ["self"] (defScope s_Plant_orders) := ⟨rfl, rfl, rfl, by decide +kernel, rfl, by decide +kernel, by decide +kernel⟩
abbrev s_Plant_call : Stmt := inClass (top 31) 6
abbrev n_Plant_call : List Str := ["self", "place", "order"]
theorem sc_Plant_call : FnScope n_Plant_call ["self", "place", "order"] (defScope s_Plant_call) := ⟨rfl, rfl, rfl, by decide +kernel, rfl, by decide +kernel, by decide +kernel⟩
abbrev s_Plant_len : Stmt := inClass (top 31) 9
abbrev n_Plant_len : List Str := ["self"]
theorem sc_Plant_len : FnScope n_Plant_len ["self"] (defScope s_Plant_len) := ⟨rfl, rfl, rfl, by decide +kernel, rfl, by decide +kernel, by decide +kernel⟩
abbrev s_Plant_contains : Stmt := inClass (top 31) 10
abbrev n_Plant_contains : List Str := ["self", "thing"]
theorem sc_Plant_contains : FnScope n_Plant_contains ["self", "thing"] (defScope s_Plant_contains) := ⟨rfl, rfl, rfl, by decide +kernel, rfl, by decide +kernel, by decide +kernel⟩
abbrev s_Plant_sub : Stmt := inClass (top 31) 13
abbrev n_Plant_sub : List Str := ["self", "one", "place", "order", "answer", "own"]
theorem sc_Plant_sub : FnScope n_Plant_sub ["self", "one"] (defScope s_Plant_sub) := ⟨rfl, rfl, rfl, by decide +kernel, rfl, by decide +kernel, by decide +kernel⟩
abbrev s_Plant_add : Stmt := inClass (top 31) 14
abbrev n_Plant_add : List Str := ["self", "one", "place", "order", "answer"]
theorem sc_Plant_add : FnScope n_Plant_add ["self", "one"] (defScope s_Plant_add) := ⟨rfl, rfl, rfl, by decide +kernel, rfl, by decide +kernel, by decide +kernel⟩
abbrev s_led : Stmt := top 34
abbrev n_led : List Str := ["plant", "places", "order", "place", "answer"]
theorem sc_led : FnScope n_led ["plant", "places", "order"] (defScope s_led) := ⟨rfl, rfl, rfl, by decide +kernel, rfl, by decide +kernel, by decide +kernel⟩
abbrev s_after : Stmt := top 35
abbrev n_after : List Str := ["plant", "places", "row", "order"]
theorem sc_after : FnScope n_after ["plant", "places", "row"] (defScope s_after) := ⟨rfl, rfl, rfl, by decide +kernel, rfl, by decide +kernel, by decide +kernel⟩
abbrev s_is_row : Stmt := top 36
abbrev n_is_row : List Str := ["plant", "thing", "most", "one"]
theorem sc_is_row : FnScope n_is_row ["plant", "thing", "most"] (defScope s_is_row) := ⟨rfl, rfl, rfl, by decide +kernel, rfl, by decide +kernel, by decide +kernel⟩
abbrev s_is_situation : Stmt := top 37
abbrev n_is_situation : List Str := ["plant", "thing", "most"]
theorem sc_is_situation : FnScope n_is_situation ["plant", "thing", "most"] (defScope s_is_situation) := ⟨rfl, rfl, rfl, by decide +kernel, rfl, by decide +kernel, by decide +kernel⟩
abbrev s_need_situation : Stmt := top 38
abbrev n_need_situation : List Str := ["plant", "thing", "most"]
theorem sc_need_situation : FnScope n_need_situation ["plant", "thing", "most"] (defScope s_need_situation) := ⟨rfl, rfl, rfl, by decide +kernel, rfl, by decide +kernel, by decide +kernel⟩
abbrev s_stands : Stmt := top 39
abbrev n_stands : List Str := ["plant", "situation"]
theorem sc_stands : FnScope n_stands ["plant", "situation"] (defScope s_stands) := ⟨rfl, rfl, rfl, by decide +kernel, rfl, by decide +kernel, by decide +kernel⟩
abbrev s_are_clear : Stmt := top 40
abbrev n_are_clear : List Str := ["plant", "places", "place"]
theorem sc_are_clear : FnScope n_are_clear ["plant", "places"] (defScope s_are_clear) := ⟨rfl, rfl, rfl, by decide +kernel, rfl, by decide +kernel, by decide +kernel⟩
abbrev s_need_number : Stmt := top 43
abbrev n_need_number : List Str := ["thing", "low", "high"]
theorem sc_need_number : FnScope n_need_number ["thing", "low", "high"] (defScope s_need_number) := ⟨rfl, rfl, rfl, by decide +kernel, rfl, by decide +kernel, by decide +kernel⟩
abbrev s_due_in : Stmt := top 44
abbrev n_due_in : List Str := ["news", "plant", "situation", "place", "row", "cut"]
theorem sc_due_in : FnScope n_due_in ["news", "plant", "situation"] (defScope s_due_in) := ⟨rfl, rfl, rfl, by decide +kernel, rfl, by decide +kernel, by decide +kernel⟩
abbrev s_next_in : Stmt := top 45
abbrev n_next_in : List Str := ["news", "plant", "situation", "order", "place", "row", "longer", "heard", "last", "found", "one"]
theorem sc_next_in : FnScope n_next_in ["news", "plant", "situation", "order"] (defScope s_next_in) := ⟨rfl, rfl, rfl, by decide +kernel, rfl, by decide +kernel, by decide +kernel⟩
abbrev s_numbers_of : Stmt := top 46
abbrev n_numbers_of : List Str := ["beats", "most"]
theorem sc_numbers_of : FnScope n_numbers_of ["beats", "most"] (defScope s_numbers_of) := ⟨rfl, rfl, rfl, by decide +kernel, rfl, by decide +kernel, by decide +kernel⟩
abbrev s_News_late : Stmt := inClass (top 47) 0
abbrev n_News_late : List Str := ["self"]
theorem sc_News_late : FnScope n_News_late ["self"] (defScope s_News_late) := ⟨rfl, rfl, rfl, by decide +kernel, rfl, by decide +kernel, by decide +kernel⟩
abbrev s_News_lost : Stmt := inClass (top 47) 1
abbrev n_News_lost : List Str := ["self"]
theorem sc_News_lost : FnScope n_News_lost ["self"] (defScope s_News_lost) := ⟨rfl, rfl, rfl, by decide +kernel, rfl, by decide +kernel, by decide +kernel⟩
abbrev s_Late_init : Stmt := inClass (top 48) 0
abbrev n_Late_init : List Str := ["self", "beats"]
theorem sc_Late_init : FnScope n_Late_init ["self", "beats"] (defScope s_Late_init) := ⟨rfl, rfl, rfl, by decide +kernel, rfl, by decide +kernel, by decide +kernel⟩
abbrev s_Lost_init : Stmt := inClass (top 49) 0
abbrev n_Lost_init : List Str := ["self", "most"]
theorem sc_Lost_init : FnScope n_Lost_init ["self", "most"] (defScope s_Lost_init) := ⟨rfl, rfl, rfl, by decide +kernel, rfl, by decide +kernel, by decide +kernel⟩
abbrev s_LateLost_init : Stmt := inClass (top 50) 0
abbrev n_LateLost_init : List Str := ["self", "beats", "most"]
theorem sc_LateLost_init : FnScope n_LateLost_init ["self", "beats", "most"] (defScope s_LateLost_init) := ⟨rfl, rfl, rfl, by decide +kernel, rfl, by decide +kernel, by decide +kernel⟩
abbrev s_need_news : Stmt := top 51
abbrev n_need_news : List Str := ["thing"]
theorem sc_need_news : FnScope n_need_news ["thing"] (defScope s_need_news) := ⟨rfl, rfl, rfl, by decide +kernel, rfl, by decide +kernel, by decide +kernel⟩
abbrev s_need_all : Stmt := top 52
abbrev n_need_all : List Str := ["plant", "news", "situation"]
theorem sc_need_all : FnScope n_need_all ["plant", "news", "situation"] (defScope s_need_all) := ⟨rfl, rfl, rfl, by decide +kernel, rfl, by decide +kernel, by decide +kernel⟩
abbrev s_is_clear : Stmt := top 56
abbrev n_is_clear : List Str := ["plant", "situation"]
theorem sc_is_clear : FnScope n_is_clear ["plant", "situation"] (defScope s_is_clear) := ⟨rfl, rfl, rfl, by decide +kernel, rfl, by decide +kernel, by decide +kernel⟩
abbrev s_ways_from : Stmt := top 57
abbrev n_ways_from : List Str := ["plant", "news", "situation", "found", "waiting", "one", "order", "later"]
theorem sc_ways_from : FnScope n_ways_from ["plant", "news", "situation"] (defScope s_ways_from) := ⟨rfl, rfl, rfl, by decide +kernel, rfl, by decide +kernel, by decide +kernel⟩
abbrev s_ranks_in : Stmt := top 58
abbrev n_ranks_in : List Str := ["plant", "ways", "ranks", "number", "fresh", "one"]
theorem sc_ranks_in : FnScope n_ranks_in ["plant", "ways"] (defScope s_ranks_in) := ⟨rfl, rfl, rfl, by decide +kernel, rfl, by decide +kernel, by decide +kernel⟩
abbrev s_is_defeated : Stmt := top 59
abbrev n_is_defeated : List Str := ["ranks", "ways", "one", "later"]
theorem sc_is_defeated : FnScope n_is_defeated ["ranks", "ways"] (defScope s_is_defeated) := ⟨rfl, rfl, rfl, by decide +kernel, rfl, by decide +kernel, by decide +kernel⟩
abbrev s_rank_in : Stmt := top 60
abbrev n_rank_in : List Str := ["plant", "news", "situation"]
theorem sc_rank_in : FnScope n_rank_in ["plant", "news", "situation"] (defScope s_rank_in) := ⟨rfl, rfl, rfl, by decide +kernel, rfl, by decide +kernel, by decide +kernel⟩
abbrev s_least_ranked : Stmt := top 63
abbrev n_least_ranked : List Str := ["ranks", "later", "one"]
theorem sc_least_ranked : FnScope n_least_ranked ["ranks", "later"] (defScope s_least_ranked) := ⟨rfl, rfl, rfl, by decide +kernel, rfl, by decide +kernel, by decide +kernel⟩
abbrev s_triples_from : Stmt := top 64
abbrev n_triples_from : List Str := ["ranks", "ways", "situation", "found", "waiting", "one", "answers", "later"]
theorem sc_triples_from : FnScope n_triples_from ["ranks", "ways", "situation"] (defScope s_triples_from) := ⟨rfl, rfl, rfl, by decide +kernel, rfl, by decide +kernel, by decide +kernel⟩
abbrev s_keeps : Stmt := top 65
abbrev n_keeps : List Str := ["plant", "news", "situation"]
theorem sc_keeps : FnScope n_keeps ["plant", "news", "situation"] (defScope s_keeps) := ⟨rfl, rfl, rfl, by decide +kernel, rfl, by decide +kernel, by decide +kernel⟩
abbrev s_verdict : Stmt := top 66
abbrev n_verdict : List Str := ["plant", "news", "situation", "ways", "ranks"]
theorem sc_verdict : FnScope n_verdict ["plant", "news", "situation"] (defScope s_verdict) := ⟨rfl, rfl, rfl, by decide +kernel, rfl, by decide +kernel, by decide +kernel⟩
abbrev s_way_to : Stmt := top 68
abbrev n_way_to : List Str := ["plant", "place", "row", "end", "layers", "order", "found", "at", "before", "one"]
theorem sc_way_to : FnScope n_way_to ["plant", "place", "row", "end"] (defScope s_way_to) := ⟨rfl, rfl, rfl, by decide +kernel, rfl, by decide +kernel, by decide +kernel⟩
abbrev s_used_in : Stmt := top 69
abbrev n_used_in : List Str := ["plant", "situation", "answers", "place", "row", "one", "found", "order", "heard", "last", "longer"]
theorem sc_used_in : FnScope n_used_in ["plant", "situation", "answers"] (defScope s_used_in) := ⟨rfl, rfl, rfl, by decide +kernel, rfl, by decide +kernel, by decide +kernel⟩
abbrev s_helpful : Stmt := top 70
abbrev n_helpful : List Str := ["plant", "news", "situation", "found", "one", "number", "answers"]
theorem sc_helpful : FnScope n_helpful ["plant", "news", "situation"] (defScope s_helpful) := ⟨rfl, rfl, rfl, by decide +kernel, rfl, by decide +kernel, by decide +kernel⟩
abbrev s_is_kept : Stmt := top 71
abbrev n_is_kept : List Str := ["plant", "news", "situation"]
theorem sc_is_kept : FnScope n_is_kept ["plant", "news", "situation"] (defScope s_is_kept) := ⟨rfl, rfl, rfl, by decide +kernel, rfl, by decide +kernel, by decide +kernel⟩
abbrev s_mend : Stmt := top 72
abbrev n_mend : List Str := ["plant", "news", "situation", "firsts", "alone", "one", "pairs", "fewer", "other"]
theorem sc_mend : FnScope n_mend ["plant", "news", "situation"] (defScope s_mend) := ⟨rfl, rfl, rfl, by decide +kernel, rfl, by decide +kernel, by decide +kernel⟩
abbrev s_shows_mend : Stmt := top 73
abbrev n_shows_mend : List Str := ["plant", "news", "situation", "thing", "one"]
theorem sc_shows_mend : FnScope n_shows_mend ["plant", "news", "situation", "thing"] (defScope s_shows_mend) := ⟨rfl, rfl, rfl, by decide +kernel, rfl, by decide +kernel, by decide +kernel⟩
abbrev s_law_cell_at : Stmt := top 75
abbrev n_law_cell_at : List Str := ["_law_script", "_law_k"]
theorem sc_law_cell_at : FnScope n_law_cell_at ["_law_script", "_law_k"] (defScope s_law_cell_at) := ⟨rfl, rfl, rfl, by decide +kernel, rfl, by decide +kernel, by decide +kernel⟩
abbrev s_law_pen : Stmt := top 76
abbrev n_law_pen : List Str := ["_law_cell"]
theorem sc_law_pen : FnScope n_law_pen ["_law_cell"] (defScope s_law_pen) := ⟨rfl, rfl, rfl, by decide +kernel, rfl, by decide +kernel, by decide +kernel⟩
abbrev s_law_draw : Stmt := top 77
abbrev n_law_draw : List Str := ["_law_pen_here", "_law_many", "_law_found", "_law_mixed_here"]
theorem sc_law_draw : FnScope n_law_draw ["_law_pen_here", "_law_many"] (defScope s_law_draw) := ⟨rfl, rfl, rfl, by decide +kernel, rfl, by decide +kernel, by decide +kernel⟩
abbrev s_law_mixed : Stmt := top 78
abbrev n_law_mixed : List Str := ["_law_pen_here", "_law_some", "_law_left", "_law_one"]
theorem sc_law_mixed : FnScope n_law_mixed ["_law_pen_here", "_law_some"] (defScope s_law_mixed) := ⟨rfl, rfl, rfl, by decide +kernel, rfl, by decide +kernel, by decide +kernel⟩
abbrev s_law_answers : Stmt := top 79
abbrev n_law_answers : List Str := ["_law_pen_here", "_law_wide", "_law_many", "_law_turn"]
theorem sc_law_answers : FnScope n_law_answers ["_law_pen_here", "_law_wide"] (defScope s_law_answers) := ⟨rfl, rfl, rfl, by decide +kernel, rfl, by decide +kernel, by decide +kernel⟩
abbrev s_law_moves : Stmt := top 80
abbrev n_law_moves : List Str := ["_law_pen_here", "_law_most", "_law_wide", "_law_ways", "_law_way", "_law_spot"]
theorem sc_law_moves : FnScope n_law_moves ["_law_pen_here", "_law_most"] (defScope s_law_moves) := ⟨rfl, rfl, rfl, by decide +kernel, rfl, by decide +kernel, by decide +kernel⟩
abbrev s_law_made : Stmt := top 81
abbrev n_law_made : List Str := ["_law_parts"]
theorem sc_law_made : FnScope n_law_made ["_law_parts"] (defScope s_law_made) := ⟨rfl, rfl, rfl, by decide +kernel, rfl, by decide +kernel, by decide +kernel⟩
abbrev s_law_row : Stmt := top 82
abbrev n_law_row : List Str := ["_law_pen_here", "_law_ways", "_law_most", "_law_turn"]
theorem sc_law_row : FnScope n_law_row ["_law_pen_here", "_law_ways", "_law_most"] (defScope s_law_row) := ⟨rfl, rfl, rfl, by decide +kernel, rfl, by decide +kernel, by decide +kernel⟩
abbrev s_law_news : Stmt := top 83
abbrev n_law_news : List Str := ["_law_late", "_law_lost", "_law_turn"]
theorem sc_law_news : FnScope n_law_news ["_law_late", "_law_lost", "_law_turn"] (defScope s_law_news) := ⟨rfl, rfl, rfl, by decide +kernel, rfl, by decide +kernel, by decide +kernel⟩
abbrev s_law_numbers : Stmt := top 84
abbrev n_law_numbers : List Str := ["_law_pen_here", "_law_most", "_law_late"]
theorem sc_law_numbers : FnScope n_law_numbers ["_law_pen_here", "_law_most"] (defScope s_law_numbers) := ⟨rfl, rfl, rfl, by decide +kernel, rfl, by decide +kernel, by decide +kernel⟩
abbrev s_law_some_situation : Stmt := top 85
abbrev n_law_some_situation : List Str := ["_law_pen_here", "_law_moves_here", "_law_most"]
theorem sc_law_some_situation : FnScope n_law_some_situation ["_law_pen_here", "_law_moves_here", "_law_most"] (defScope s_law_some_situation) := ⟨rfl, rfl, rfl, by decide +kernel, rfl, by decide +kernel, by decide +kernel⟩
abbrev s_law_every : Stmt := top 86
abbrev n_law_every : List Str := ["_law_moves_here", "_law_found", "_law_spot", "_law_row_here", "_law_way", "_law_answers_here", "_law_answer"]
theorem sc_law_every : FnScope n_law_every ["_law_moves_here"] (defScope s_law_every) := ⟨rfl, rfl, rfl, by decide +kernel, rfl, by decide +kernel, by decide +kernel⟩
abbrev s_law_bad_parts : Stmt := top 87
abbrev n_law_bad_parts : List Str := ["_law_pen_here", "_law_most", "_law_moves_here", "_law_wide", "_law_bad", "_law_at"]
theorem sc_law_bad_parts : FnScope n_law_bad_parts ["_law_pen_here", "_law_most"] (defScope s_law_bad_parts) := ⟨rfl, rfl, rfl, by decide +kernel, rfl, by decide +kernel, by decide +kernel⟩
abbrev s_law_few : Stmt := top 88
abbrev n_law_few : List Str := ["_law_parts", "_law_row_here"]
theorem sc_law_few : FnScope n_law_few ["_law_parts"] (defScope s_law_few) := ⟨rfl, rfl, rfl, by decide +kernel, rfl, by decide +kernel, by decide +kernel⟩
abbrev s_law_without : Stmt := top 89
abbrev n_law_without : List Str := ["_law_made_here", "_law_some", "_law_one"]
theorem sc_law_without : FnScope n_law_without ["_law_made_here", "_law_some"] (defScope s_law_without) := ⟨rfl, rfl, rfl, by decide +kernel, rfl, by decide +kernel, by decide +kernel⟩
abbrev s_law_right : Stmt := top 90
abbrev n_law_right : List Str := ["_law_pen_here", "_law_made_here", "_law_heard", "_law_situation", "_law_told", "_law_some", "_law_one", "_law_less", "_law_rest", "_law_own"]
theorem sc_law_right : FnScope n_law_right ["_law_pen_here", "_law_made_here", "_law_heard", "_law_situation"] (defScope s_law_right) := ⟨rfl, rfl, rfl, by decide +kernel, rfl, by decide +kernel, by decide +kernel⟩
abbrev s_law_more_right : Stmt := top 91
abbrev n_law_more_right : List Str := ["_law_pen_here", "_law_made_here", "_law_heard", "_law_situation", "_law_told", "_law_wide", "_law_one", "_law_more", "_law_many", "_law_some"]
theorem sc_law_more_right : FnScope n_law_more_right ["_law_pen_here", "_law_made_here", "_law_heard", "_law_situation"] (defScope s_law_more_right) := ⟨rfl, rfl, rfl, by decide +kernel, rfl, by decide +kernel, by decide +kernel⟩
abbrev s_law : Stmt := top 92
abbrev n_law : List Str := ["_law_script", "_law_k", "_law_pen_here", "_law_lap", "_law_made_here", "_law_numbers_here", "_law_heard", "_law_situation"]
theorem sc_law : FnScope n_law ["_law_script"] (defScope s_law) := ⟨rfl, rfl, rfl, by decide +kernel, rfl, by decide +kernel, by decide +kernel⟩

/-! ### where a getter stands -/
def gAd (K : PySem.W.Frag) (C f : Str) : Addr := match PySem.W.recIn K (He.ma K (He.ga K C) f) "property" with
  | some (.ref g :: _) => g
  | _ => 0
/-- one def: where it stands, its name, its text, its defaults -/
structure DX where
  ad : PySem.W.Frag → Addr
  name : Str
  qual : Str
  st : Stmt
  dfl : List V
abbrev Sig : Type := Option (Str × Str × Arguments × FuncBody × Scope × Addr × List (Str × Addr) × Addr)
def sigAt (K : PySem.W.Frag) (a : Addr) : Sig := match K.lookup a with
  | some ⟨_, _, .func g, _⟩ => some (g.name, g.qualname, g.params, g.body, g.scope, g.globals, g.closure, g.builtins)
  | _ => none
def DX.sig (d : DX) : Sig := some (d.name, d.qual, defArgs d.st, .stmts (defBody d.st), defScope d.st, mainGlobals, [], builtinsNs)
def DX.good (K : PySem.W.Frag) (d : DX) : Bool := PySem.W.keepIn K (.ref (d.ad K)) && (match K.lookup (d.ad K) with
  | some ⟨_, _, .func g, _⟩ => PySem.W.codeIn K g.code d.qual && He.dflB K g.defaults d.dfl
  | _ => false)
theorem DX.fun_ {K : PySem.W.Frag} {d : DX} (e : sigAt K (d.ad K) = d.sig) (c : d.good K = true) : ∃ fd, FunD K d.name d.qual (defArgs d.st) (defBody d.st) (defScope d.st) d.dfl [] (d.ad K) fd := by
  obtain ⟨kp, c2⟩ := Bool.and_eq_true_iff.mp c
  cases q : K.lookup (d.ad K) with
  | none =>
    rw [q] at c2
    exact nomatch c2
  | some o =>
    obtain ⟨oc, od, dt, osl⟩ := o
    rw [q] at c2
    unfold sigAt at e
    rw [q] at e
    cases dt with
    | func g =>
      obtain ⟨m1, m2, m3, m4, m5, m6, m7, m8, m9, m10, m11, m12, m13, m14, m15⟩ := g
      have e2 : (some (m1, m2, m3, m4, m5, m6, m7, m15) : Sig) = some (d.name, d.qual, defArgs d.st, .stmts (defBody d.st), defScope d.st, mainGlobals, [], builtinsNs) := e
      simp only [Option.some.injEq, Prod.mk.injEq] at e2
      obtain ⟨h1, h2, h3, h4, h5, h6, h7, h8⟩ := e2
      subst h1 h2 h3 h4 h5 h6 h7 h8
      obtain ⟨k1, k2⟩ := Bool.and_eq_true_iff.mp (show (PySem.W.codeIn K m13 d.qual && He.dflB K m8 d.dfl) = true from c2)
      exact ⟨_, ⟨oc, od, m8, m9, m10, m11, m12, m13, m14, osl, rfl, q, k1, He.dflB_ok k2, .inl rfl⟩, kp⟩
    | _ => exact nomatch c2

/-- the i-th default of the def at a, an object -/
def dfA (a : PySem.W.Frag → Addr) (i : Nat) (K : PySem.W.Frag) : Addr := match K.lookup (a K) with
  | some ⟨_, _, .func g, _⟩ => (match g.defaults with
    | .ref t => (match K.lookup t with
      | some ⟨_, _, .seq its _, _⟩ => (match its.toList[i]? with
        | some (.ref b) => b
        | _ => 0)
      | _ => 0)
    | _ => 0)
  | _ => 0
def d_is_between (K : PySem.W.Frag) : DX := ⟨fun K => He.ga K "is_between", "is_between", "is_between", s_is_between, []⟩
def d_are_ascending (K : PySem.W.Frag) : DX := ⟨fun K => He.ga K "are_ascending", "are_ascending", "are_ascending", s_are_ascending, []⟩
def d_are_moves (K : PySem.W.Frag) : DX := ⟨fun K => He.ga K "are_moves", "are_moves", "are_moves", s_are_moves, []⟩
def d_is_place (K : PySem.W.Frag) : DX := ⟨fun K => He.ga K "is_place", "is_place", "is_place", s_is_place, []⟩
def d_is_order (K : PySem.W.Frag) : DX := ⟨fun K => He.ga K "is_order", "is_order", "is_order", s_is_order, []⟩
def d_need_plant (K : PySem.W.Frag) : DX := ⟨fun K => He.ga K "need_plant", "need_plant", "need_plant", s_need_plant, []⟩
def d_need_place (K : PySem.W.Frag) : DX := ⟨fun K => He.ga K "need_place", "need_place", "need_place", s_need_place, []⟩
def d_need_order (K : PySem.W.Frag) : DX := ⟨fun K => He.ga K "need_order", "need_order", "need_order", s_need_order, []⟩
def d_is_triple (K : PySem.W.Frag) : DX := ⟨fun K => He.ga K "is_triple", "is_triple", "is_triple", s_is_triple, []⟩
def d_answered (K : PySem.W.Frag) : DX := ⟨fun K => He.ga K "answered", "answered", "answered", s_answered, []⟩
def d_Plant_init (K : PySem.W.Frag) : DX := ⟨fun K => He.ma K (He.ga K "Plant") "__init__", "__init__", "Plant.__init__", s_Plant_init, [.ref (dfA (fun K => He.ma K (He.ga K "Plant") "__init__") 0 K), .ref (dfA (fun K => He.ma K (He.ga K "Plant") "__init__") 1 K)]⟩
def d_Plant_moves (K : PySem.W.Frag) : DX := ⟨fun K => gAd K "Plant" "moves", "moves", "Plant.moves", s_Plant_moves, []⟩
def d_Plant_bad (K : PySem.W.Frag) : DX := ⟨fun K => gAd K "Plant" "bad", "bad", "Plant.bad", s_Plant_bad, []⟩
def d_Plant_goal (K : PySem.W.Frag) : DX := ⟨fun K => gAd K "Plant" "goal", "goal", "Plant.goal", s_Plant_goal, []⟩
def d_Plant_places (K : PySem.W.Frag) : DX := ⟨fun K => gAd K "Plant" "places", "places", "Plant.places", s_Plant_places, []⟩
def d_Plant_orders (K : PySem.W.Frag) : DX := ⟨fun K => gAd K "Plant" "orders", "orders", "Plant.orders", s_Plant_orders, []⟩
def d_Plant_call (K : PySem.W.Frag) : DX := ⟨fun K => He.ma K (He.ga K "Plant") "__call__", "__call__", "Plant.__call__", s_Plant_call, []⟩
def d_Plant_len (K : PySem.W.Frag) : DX := ⟨fun K => He.ma K (He.ga K "Plant") "__len__", "__len__", "Plant.__len__", s_Plant_len, []⟩
def d_Plant_contains (K : PySem.W.Frag) : DX := ⟨fun K => He.ma K (He.ga K "Plant") "__contains__", "__contains__", "Plant.__contains__", s_Plant_contains, []⟩
def d_Plant_sub (K : PySem.W.Frag) : DX := ⟨fun K => He.ma K (He.ga K "Plant") "__sub__", "__sub__", "Plant.__sub__", s_Plant_sub, []⟩
def d_Plant_add (K : PySem.W.Frag) : DX := ⟨fun K => He.ma K (He.ga K "Plant") "__add__", "__add__", "Plant.__add__", s_Plant_add, []⟩
def d_led (K : PySem.W.Frag) : DX := ⟨fun K => He.ga K "led", "led", "led", s_led, []⟩
def d_after (K : PySem.W.Frag) : DX := ⟨fun K => He.ga K "after", "after", "after", s_after, []⟩
def d_is_row (K : PySem.W.Frag) : DX := ⟨fun K => He.ga K "is_row", "is_row", "is_row", s_is_row, []⟩
def d_is_situation (K : PySem.W.Frag) : DX := ⟨fun K => He.ga K "is_situation", "is_situation", "is_situation", s_is_situation, [.int 8]⟩
def d_need_situation (K : PySem.W.Frag) : DX := ⟨fun K => He.ga K "need_situation", "need_situation", "need_situation", s_need_situation, [.int 8]⟩
def d_stands (K : PySem.W.Frag) : DX := ⟨fun K => He.ga K "stands", "stands", "stands", s_stands, []⟩
def d_are_clear (K : PySem.W.Frag) : DX := ⟨fun K => He.ga K "are_clear", "are_clear", "are_clear", s_are_clear, []⟩
def d_need_number (K : PySem.W.Frag) : DX := ⟨fun K => He.ga K "need_number", "need_number", "need_number", s_need_number, []⟩
def d_due_in (K : PySem.W.Frag) : DX := ⟨fun K => He.ga K "due_in", "due_in", "due_in", s_due_in, []⟩
def d_next_in (K : PySem.W.Frag) : DX := ⟨fun K => He.ga K "next_in", "next_in", "next_in", s_next_in, []⟩
def d_numbers_of (K : PySem.W.Frag) : DX := ⟨fun K => He.ga K "numbers_of", "numbers_of", "numbers_of", s_numbers_of, []⟩
def d_News_late (K : PySem.W.Frag) : DX := ⟨fun K => gAd K "News" "late", "late", "News.late", s_News_late, []⟩
def d_News_lost (K : PySem.W.Frag) : DX := ⟨fun K => gAd K "News" "lost", "lost", "News.lost", s_News_lost, []⟩
def d_Late_init (K : PySem.W.Frag) : DX := ⟨fun K => He.ma K (He.ga K "Late") "__init__", "__init__", "Late.__init__", s_Late_init, []⟩
def d_Lost_init (K : PySem.W.Frag) : DX := ⟨fun K => He.ma K (He.ga K "Lost") "__init__", "__init__", "Lost.__init__", s_Lost_init, []⟩
def d_LateLost_init (K : PySem.W.Frag) : DX := ⟨fun K => He.ma K (He.ga K "LateLost") "__init__", "__init__", "LateLost.__init__", s_LateLost_init, []⟩
def d_need_news (K : PySem.W.Frag) : DX := ⟨fun K => He.ga K "need_news", "need_news", "need_news", s_need_news, []⟩
def d_need_all (K : PySem.W.Frag) : DX := ⟨fun K => He.ga K "need_all", "need_all", "need_all", s_need_all, []⟩
def d_is_clear (K : PySem.W.Frag) : DX := ⟨fun K => He.ga K "is_clear", "is_clear", "is_clear", s_is_clear, []⟩
def d_ways_from (K : PySem.W.Frag) : DX := ⟨fun K => He.ga K "ways_from", "ways_from", "ways_from", s_ways_from, []⟩
def d_ranks_in (K : PySem.W.Frag) : DX := ⟨fun K => He.ga K "ranks_in", "ranks_in", "ranks_in", s_ranks_in, []⟩
def d_is_defeated (K : PySem.W.Frag) : DX := ⟨fun K => He.ga K "is_defeated", "is_defeated", "is_defeated", s_is_defeated, []⟩
def d_rank_in (K : PySem.W.Frag) : DX := ⟨fun K => He.ga K "rank_in", "rank_in", "rank_in", s_rank_in, []⟩
def d_least_ranked (K : PySem.W.Frag) : DX := ⟨fun K => He.ga K "least_ranked", "least_ranked", "least_ranked", s_least_ranked, []⟩
def d_triples_from (K : PySem.W.Frag) : DX := ⟨fun K => He.ga K "triples_from", "triples_from", "triples_from", s_triples_from, []⟩
def d_keeps (K : PySem.W.Frag) : DX := ⟨fun K => He.ga K "keeps", "keeps", "keeps", s_keeps, []⟩
def d_verdict (K : PySem.W.Frag) : DX := ⟨fun K => He.ga K "verdict", "verdict", "verdict", s_verdict, []⟩
def d_way_to (K : PySem.W.Frag) : DX := ⟨fun K => He.ga K "way_to", "way_to", "way_to", s_way_to, []⟩
def d_used_in (K : PySem.W.Frag) : DX := ⟨fun K => He.ga K "used_in", "used_in", "used_in", s_used_in, []⟩
def d_helpful (K : PySem.W.Frag) : DX := ⟨fun K => He.ga K "helpful", "helpful", "helpful", s_helpful, []⟩
def d_is_kept (K : PySem.W.Frag) : DX := ⟨fun K => He.ga K "is_kept", "is_kept", "is_kept", s_is_kept, []⟩
def d_mend (K : PySem.W.Frag) : DX := ⟨fun K => He.ga K "mend", "mend", "mend", s_mend, []⟩
def d_shows_mend (K : PySem.W.Frag) : DX := ⟨fun K => He.ga K "shows_mend", "shows_mend", "shows_mend", s_shows_mend, []⟩
def d_law_cell_at (K : PySem.W.Frag) : DX := ⟨fun K => He.ga K "_law_cell_at", "_law_cell_at", "_law_cell_at", s_law_cell_at, []⟩
def d_law_pen (K : PySem.W.Frag) : DX := ⟨fun K => He.ga K "_law_pen", "_law_pen", "_law_pen", s_law_pen, []⟩
def d_law_draw (K : PySem.W.Frag) : DX := ⟨fun K => He.ga K "_law_draw", "_law_draw", "_law_draw", s_law_draw, []⟩
def d_law_mixed (K : PySem.W.Frag) : DX := ⟨fun K => He.ga K "_law_mixed", "_law_mixed", "_law_mixed", s_law_mixed, []⟩
def d_law_answers (K : PySem.W.Frag) : DX := ⟨fun K => He.ga K "_law_answers", "_law_answers", "_law_answers", s_law_answers, []⟩
def d_law_moves (K : PySem.W.Frag) : DX := ⟨fun K => He.ga K "_law_moves", "_law_moves", "_law_moves", s_law_moves, []⟩
def d_law_made (K : PySem.W.Frag) : DX := ⟨fun K => He.ga K "_law_made", "_law_made", "_law_made", s_law_made, []⟩
def d_law_row (K : PySem.W.Frag) : DX := ⟨fun K => He.ga K "_law_row", "_law_row", "_law_row", s_law_row, []⟩
def d_law_news (K : PySem.W.Frag) : DX := ⟨fun K => He.ga K "_law_news", "_law_news", "_law_news", s_law_news, []⟩
def d_law_numbers (K : PySem.W.Frag) : DX := ⟨fun K => He.ga K "_law_numbers", "_law_numbers", "_law_numbers", s_law_numbers, []⟩
def d_law_some_situation (K : PySem.W.Frag) : DX := ⟨fun K => He.ga K "_law_some_situation", "_law_some_situation", "_law_some_situation", s_law_some_situation, []⟩
def d_law_every (K : PySem.W.Frag) : DX := ⟨fun K => He.ga K "_law_every", "_law_every", "_law_every", s_law_every, []⟩
def d_law_bad_parts (K : PySem.W.Frag) : DX := ⟨fun K => He.ga K "_law_bad_parts", "_law_bad_parts", "_law_bad_parts", s_law_bad_parts, []⟩
def d_law_few (K : PySem.W.Frag) : DX := ⟨fun K => He.ga K "_law_few", "_law_few", "_law_few", s_law_few, []⟩
def d_law_without (K : PySem.W.Frag) : DX := ⟨fun K => He.ga K "_law_without", "_law_without", "_law_without", s_law_without, []⟩
def d_law_right (K : PySem.W.Frag) : DX := ⟨fun K => He.ga K "_law_right", "_law_right", "_law_right", s_law_right, []⟩
def d_law_more_right (K : PySem.W.Frag) : DX := ⟨fun K => He.ga K "_law_more_right", "_law_more_right", "_law_more_right", s_law_more_right, []⟩
def d_law (K : PySem.W.Frag) : DX := ⟨fun K => He.ga K "law", "law", "law", s_law, []⟩
def dxs (K : PySem.W.Frag) : List DX := [d_is_between K, d_are_ascending K, d_are_moves K, d_is_place K, d_is_order K, d_need_plant K, d_need_place K, d_need_order K, d_is_triple K, d_answered K, d_Plant_init K, d_Plant_moves K, d_Plant_bad K, d_Plant_goal K, d_Plant_places K, d_Plant_orders K, d_Plant_call K, d_Plant_len K, d_Plant_contains K, d_Plant_sub K, d_Plant_add K, d_led K, d_after K, d_is_row K, d_is_situation K, d_need_situation K, d_stands K, d_are_clear K, d_need_number K, d_due_in K, d_next_in K, d_numbers_of K, d_News_late K, d_News_lost K, d_Late_init K, d_Lost_init K, d_LateLost_init K, d_need_news K, d_need_all K, d_is_clear K, d_ways_from K, d_ranks_in K, d_is_defeated K, d_rank_in K, d_least_ranked K, d_triples_from K, d_keeps K, d_verdict K, d_way_to K, d_used_in K, d_helpful K, d_is_kept K, d_mend K, d_shows_mend K, d_law_cell_at K, d_law_pen K, d_law_draw K, d_law_mixed K, d_law_answers K, d_law_moves K, d_law_made K, d_law_row K, d_law_news K, d_law_numbers K, d_law_some_situation K, d_law_every K, d_law_bad_parts K, d_law_few K, d_law_without K, d_law_right K, d_law_more_right K, d_law K]
/-- the class C has f as a property whose getter is that of the class B -/
def propB (K : PySem.W.Frag) (C B f : Str) : Bool :=
  He.eqO (PySem.W.findIn K (.ref (He.ga K C)) f) (some (some (.ref (He.ma K (He.ga K B) f)))) && (He.eqO (PySem.W.specialIn K (.ref (He.ma K (He.ga K B) f)) "__get__") (some (some (.builtin "property.__get__"))) &&
    (decide (PySem.W.takesIn K (.ref (He.ma K (He.ga K B) f)) = some true) && (match PySem.W.recIn K (He.ma K (He.ga K B) f) "property" with
      | some (.ref _ :: _) => true
      | _ => false)))
theorem propB_ok {K : PySem.W.Frag} {C B f : Str} (h : propB K C B f = true) : PropOf K (He.ga K C) f (He.ma K (He.ga K B) f) (gAd K B f) := by
  obtain ⟨h1, h⟩ := Bool.and_eq_true_iff.mp h
  obtain ⟨h2, h⟩ := Bool.and_eq_true_iff.mp h
  obtain ⟨h3, h4⟩ := Bool.and_eq_true_iff.mp h
  refine ⟨He.eqO_ok h1, He.eqO_ok h2, of_decide_eq_true h3, ?_⟩
  unfold gAd
  cases e : PySem.W.recIn K (He.ma K (He.ga K B) f) "property" with
  | none =>
    rw [e] at h4
    exact nomatch h4
  | some l =>
    rw [e] at h4
    cases l with
    | nil => exact nomatch h4
    | cons v r =>
      cases v with
      | ref g => exact ⟨r, rfl⟩
      | _ => exact nomatch h4
/-- an empty tuple -/
def tupE (K : PySem.W.Frag) (a : Addr) : Bool := match K.lookup a with
  | some ⟨.type c, _, .seq its _, _⟩ => decide (c = "tuple") && decide (its.size = 0)
  | _ => false
def fcs (K : PySem.W.Frag) : List Bool := [(He.Fa.glo "HelmError").ok K,
  (He.Fa.glo "NoMoves").ok K,
  (He.Fa.glo "NoMarks").ok K,
  (He.Fa.glo "NoPlant").ok K,
  (He.Fa.glo "NoPlace").ok K,
  (He.Fa.glo "NoOrder").ok K,
  (He.Fa.glo "NoAnswer").ok K,
  (He.Fa.glo "NoText").ok K,
  (He.Fa.glo "NoNumber").ok K,
  (He.Fa.glo "NoNews").ok K,
  (He.Fa.glo "NoSituation").ok K,
  (He.Fa.glo "TooMuch").ok K,
  (He.Fa.glo "is_between").ok K,
  (He.Fa.glo "are_ascending").ok K,
  (He.Fa.glo "are_moves").ok K,
  (He.Fa.glo "is_place").ok K,
  (He.Fa.glo "is_order").ok K,
  (He.Fa.glo "need_plant").ok K,
  (He.Fa.glo "need_place").ok K,
  (He.Fa.glo "need_order").ok K,
  (He.Fa.glo "is_triple").ok K,
  (He.Fa.glo "answered").ok K,
  (He.Fa.glo "Plant").ok K,
  (He.Fa.glo "led").ok K,
  (He.Fa.glo "after").ok K,
  (He.Fa.glo "is_row").ok K,
  (He.Fa.glo "is_situation").ok K,
  (He.Fa.glo "need_situation").ok K,
  (He.Fa.glo "stands").ok K,
  (He.Fa.glo "are_clear").ok K,
  (He.Fa.glo "need_number").ok K,
  (He.Fa.glo "due_in").ok K,
  (He.Fa.glo "next_in").ok K,
  (He.Fa.glo "numbers_of").ok K,
  (He.Fa.glo "News").ok K,
  (He.Fa.glo "Late").ok K,
  (He.Fa.glo "Lost").ok K,
  (He.Fa.glo "LateLost").ok K,
  (He.Fa.glo "need_news").ok K,
  (He.Fa.glo "need_all").ok K,
  (He.Fa.glo "is_clear").ok K,
  (He.Fa.glo "ways_from").ok K,
  (He.Fa.glo "ranks_in").ok K,
  (He.Fa.glo "is_defeated").ok K,
  (He.Fa.glo "rank_in").ok K,
  (He.Fa.glo "least_ranked").ok K,
  (He.Fa.glo "triples_from").ok K,
  (He.Fa.glo "keeps").ok K,
  (He.Fa.glo "verdict").ok K,
  (He.Fa.glo "way_to").ok K,
  (He.Fa.glo "used_in").ok K,
  (He.Fa.glo "helpful").ok K,
  (He.Fa.glo "is_kept").ok K,
  (He.Fa.glo "mend").ok K,
  (He.Fa.glo "shows_mend").ok K,
  (He.Fa.glo "_law_cell_at").ok K,
  (He.Fa.glo "_law_pen").ok K,
  (He.Fa.glo "_law_draw").ok K,
  (He.Fa.glo "_law_mixed").ok K,
  (He.Fa.glo "_law_answers").ok K,
  (He.Fa.glo "_law_moves").ok K,
  (He.Fa.glo "_law_made").ok K,
  (He.Fa.glo "_law_row").ok K,
  (He.Fa.glo "_law_news").ok K,
  (He.Fa.glo "_law_numbers").ok K,
  (He.Fa.glo "_law_some_situation").ok K,
  (He.Fa.glo "_law_every").ok K,
  (He.Fa.glo "_law_bad_parts").ok K,
  (He.Fa.glo "_law_few").ok K,
  (He.Fa.glo "_law_without").ok K,
  (He.Fa.glo "_law_right").ok K,
  (He.Fa.glo "_law_more_right").ok K,
  (He.Fa.glo "law").ok K,
  (He.Fa.free "isinstance").ok K,
  (He.Fa.free "int").ok K,
  (He.Fa.free "bool").ok K,
  (He.Fa.free "tuple").ok K,
  (He.Fa.free "all").ok K,
  (He.Fa.free "any").ok K,
  (He.Fa.free "list").ok K,
  (He.Fa.free "sorted").ok K,
  (He.Fa.free "set").ok K,
  (He.Fa.free "len").ok K,
  (He.Fa.free "range").ok K,
  (He.Fa.free "enumerate").ok K,
  (He.Fa.free "min").ok K,
  (He.Fa.free "max").ok K,
  (He.Fa.int "MOST_PLACES" 6).ok K,
  (He.Fa.int "MOST_ORDERS" 3).ok K,
  (He.Fa.int "MOST_ROW" 8).ok K,
  (He.Fa.int "MOST" 4).ok K,
  (He.Fa.str "KEPT" "kept").ok K,
  (He.Fa.str "LOST" "lost").ok K,
  (He.Fa.cls "Plant").ok K,
  (He.Fa.mkr "Plant").ok K,
  He.eqO (PySem.W.findIn K (.ref (He.ga K "Plant")) "__class__") (some (some (.builtin "object.__class__"))),
  decide (PySem.W.mroIn K (He.ga K "Plant") (.type "object") = some true),
  (He.Fa.cls "Late").ok K,
  (He.Fa.mkr "Late").ok K,
  He.eqO (PySem.W.findIn K (.ref (He.ga K "Late")) "__class__") (some (some (.builtin "object.__class__"))),
  decide (PySem.W.mroIn K (He.ga K "Late") (.type "object") = some true),
  (He.Fa.cls "Lost").ok K,
  (He.Fa.mkr "Lost").ok K,
  He.eqO (PySem.W.findIn K (.ref (He.ga K "Lost")) "__class__") (some (some (.builtin "object.__class__"))),
  decide (PySem.W.mroIn K (He.ga K "Lost") (.type "object") = some true),
  (He.Fa.cls "LateLost").ok K,
  (He.Fa.mkr "LateLost").ok K,
  He.eqO (PySem.W.findIn K (.ref (He.ga K "LateLost")) "__class__") (some (some (.builtin "object.__class__"))),
  decide (PySem.W.mroIn K (He.ga K "LateLost") (.type "object") = some true),
  (He.Fa.noat "Plant" "rows").ok K,
  (He.Fa.noat "Plant" "marks").ok K,
  (He.Fa.noat "Late" "numbers").ok K,
  (He.Fa.noat "Lost" "numbers").ok K,
  (He.Fa.noat "LateLost" "numbers").ok K,
  He.eqO (PySem.W.specialIn K (.builtin "object.__class__") "__get__") (some (some (.builtin "getset_descriptor.__get__"))),
  decide (PySem.W.takesIn K (.builtin "object.__class__") = some true),
  decide (PySem.W.kitOne K (.ref (He.ga K "Plant")) (.ref (He.ga K "Plant")) = some true),
  decide (PySem.W.kitAny K (.ref (He.ga K "Late")) [.ref (He.ga K "Late"), .ref (He.ga K "Lost")] = some true),
  decide (PySem.W.kitAny K (.ref (He.ga K "Lost")) [.ref (He.ga K "Late"), .ref (He.ga K "Lost")] = some true),
  decide (PySem.W.kitAny K (.ref (He.ga K "LateLost")) [.ref (He.ga K "Late"), .ref (He.ga K "Lost")] = some true),
  propB K "Plant" "Plant" "moves",
  propB K "Plant" "Plant" "bad",
  propB K "Plant" "Plant" "goal",
  propB K "Plant" "Plant" "places",
  propB K "Plant" "Plant" "orders",
  propB K "Late" "News" "late",
  propB K "Late" "News" "lost",
  propB K "Lost" "News" "late",
  propB K "Lost" "News" "lost",
  propB K "LateLost" "News" "late",
  propB K "LateLost" "News" "lost",
  He.eqO (PySem.W.findIn K (.ref (He.ga K "Plant")) "__call__") (some (some (.ref (He.ma K (He.ga K "Plant") "__call__")))) && (PySem.W.isFn K (.ref (He.ma K (He.ga K "Plant") "__call__")) && PySem.W.fnIn K (He.ma K (He.ga K "Plant") "__call__")),
  (He.Fa.meth "Plant" "__len__").ok K,
  (He.Fa.meth "Plant" "__contains__").ok K,
  (He.Fa.meth "Plant" "__sub__").ok K,
  (He.Fa.meth "Plant" "__add__").ok K,
  PySem.W.selfFirst K (He.ga K "Plant"),
  He.eqO (PySem.W.findIn K (.ref (He.ga K "Plant")) (dunderR "sub")) (some none),
  He.eqO (PySem.W.findIn K (.ref (He.ga K "Plant")) (dunderR "add")) (some none),
  decide (PySem.W.subIn K (.type "tuple") (.ref (He.ga K "Plant")) = some false),
  tupE K (dfA (fun K => He.ma K (He.ga K "Plant") "__init__") 0 K) && tupE K (dfA (fun K => He.ma K (He.ga K "Plant") "__init__") 1 K)]
def obsL (K : PySem.W.Frag) : Bool × List Sig := ((fcs K).all id && (dxs K).all fun d => d.good K, (dxs K).map fun d => sigAt K (d.ad K))
/-- what is expected: the defs' own texts (the addresses play no part) -/
def valL : Bool × List Sig := (true, (dxs []).map DX.sig)
theorem sigs_eq (K : PySem.W.Frag) : (dxs K).map DX.sig = (dxs []).map DX.sig := rfl
def Says (K : PySem.W.Frag) : Prop := obsL K = valL
/-! ### the part of the heap that is looked at -/
def valsL (o : Obj) : List Addr := match o.data with
  | .dict es _ => es.toList.flatMap fun e => He.refV e.val
  | _ => []
def partsL (o : Obj) : List Addr := match o.data with
  | .func g => He.refV g.code ++ He.refV g.defaults
  | .cls cd => [cd.ns]
  | .fields vs => vs.toList.flatMap He.refV
  | .seq its _ => its.toList.flatMap He.refV
  | _ => []
def isDefL (o : Obj) : Bool := match o.data with
  | .func _ => true
  | .cls _ => true
  | _ => false
def stepL (g : Addr → Option Obj) (f : Obj → List Addr) (as : List Addr) : List Addr := as.flatMap fun a => match g a with
  | some o => f o
  | none => []
def keepL (g : Addr → Option Obj) (as : List Addr) : List Addr := as.filter fun a => match g a with
  | some o => isDefL o
  | none => false
/-- a list of addresses, reckoned -/
def frL {α : Type} : List Addr → (List Addr → α) → α
  | [], k => k []
  | a :: r, k => HandSHeadRun.frNat a fun a => frL r fun r => k (a :: r)
theorem frL_eq {α : Type} : ∀ (l : List Addr) (k : List Addr → α), frL l k = k l
  | [], _ => rfl
  | a :: r, k => by
    unfold frL
    rw [HandSHeadRun.frNat_eq, frL_eq r]
/-- a part of the heap, reckoned -/
def frK {α : Type} : PySem.W.Frag → (PySem.W.Frag → α) → α
  | [], k => k []
  | (a, o) :: r, k => frK r fun r => k ((a, o) :: r)
theorem frK_eq {α : Type} : ∀ (l : PySem.W.Frag) (k : PySem.W.Frag → α), frK l k = k l
  | [], _ => rfl
  | (a, o) :: r, k => by
    unfold frK
    rw [frK_eq r]
def asL (g : Addr → Option Obj) : List Addr :=
  let l1 := keepL g (stepL g valsL [mainGlobals])
  let l2 := stepL g partsL l1
  let l3 := stepL g valsL l2
  let l4 := stepL g partsL l3
  let l5 := stepL g partsL l4
  mainGlobals :: (l1 ++ (l2 ++ (l3 ++ (l4 ++ l5))))
def obsF (g : Addr → Option Obj) : Bool × List Sig :=
  frL (keepL g (stepL g valsL [mainGlobals])) fun l1 => frL (stepL g partsL l1) fun l2 => frL (stepL g valsL l2) fun l3 => frL (stepL g partsL l3) fun l4 => frL (stepL g partsL l4) fun l5 =>
    frK (He.frG g (mainGlobals :: (l1 ++ (l2 ++ (l3 ++ (l4 ++ l5)))))) obsL
theorem obsF_eq (g : Addr → Option Obj) : obsF g = obsL (He.frG g (asL g)) := by
  unfold obsF
  rw [frL_eq, frL_eq, frL_eq, frL_eq, frL_eq, frK_eq]
  rfl
def hookL : PySem.W.Hook where
  α := Bool × List Sig
  obs := fun s => obsL (He.frG s.heap.get? (asL s.heap.get?))
  val := fun _ => valL
  says := fun _ h => ∃ K : PySem.W.Frag, K.In h ∧ Says K
  of := fun _ _ e => ⟨_, He.frG_in, e⟩
  keeps := fun _ _ _ ⟨K, hK, c⟩ k => ⟨K, PySem.W.Frag.In.keeps hK k, c⟩
theorem obsF_hook {g : Addr → Option Obj} {s : Shared} (h : ∀ a, g a = s.heap.get? a) : obsF g = hookL.obs s := by
  have e : g = s.heap.get? := funext h
  subst e
  exact obsF_eq _
theorem Says.fact {K : PySem.W.Frag} (c : Says K) (i : Nat) {b : Bool} (h : (fcs K)[i]? = some b := by rfl) : b = true := by
  have c1 := (Bool.and_eq_true_iff.mp (show ((fcs K).all id && (dxs K).all fun d => d.good K) = true from congrArg Prod.fst c)).1
  exact List.all_eq_true.mp c1 b (List.mem_of_getElem? h)
theorem Says.def_ {K : PySem.W.Frag} (c : Says K) (i : Nat) {d : DX} (h : (dxs K)[i]? = some d := by rfl) : ∃ fd, FunD K d.name d.qual (defArgs d.st) (defBody d.st) (defScope d.st) d.dfl [] (d.ad K) fd := by
  have c2 := (Bool.and_eq_true_iff.mp (show ((fcs K).all id && (dxs K).all fun d => d.good K) = true from congrArg Prod.fst c)).2
  have e : (dxs K).map (fun d => sigAt K (d.ad K)) = (dxs K).map DX.sig := (congrArg Prod.snd c).trans (sigs_eq K).symm
  have e2 : ((dxs K).map fun d => sigAt K (d.ad K))[i]? = ((dxs K).map DX.sig)[i]? := by rw [e]
  rw [List.getElem?_map, List.getElem?_map, h] at e2
  exact DX.fun_ (Option.some.inj e2) (List.all_eq_true.mp c2 d (List.mem_of_getElem? h))
/-- what a def's proof leans on: the written part, the module's names -/
structure Tx (K : PySem.W.Frag) (mg : Str → Option Value) : Prop where
  says : Says K
  ns : ∃ h : Heap, K.In h ∧ h.Ns mainGlobals mg

theorem Tx.g_HelmError {K : PySem.W.Frag} {mg : Str → Option Value} (T : Tx K mg) : mg "HelmError" = some (.ref (He.ga K "HelmError")) := let ⟨_, X, G⟩ := T.ns; He.glo_ok X G (T.says.fact 0)
theorem Tx.g_NoMoves {K : PySem.W.Frag} {mg : Str → Option Value} (T : Tx K mg) : mg "NoMoves" = some (.ref (He.ga K "NoMoves")) := let ⟨_, X, G⟩ := T.ns; He.glo_ok X G (T.says.fact 1)
theorem Tx.g_NoMarks {K : PySem.W.Frag} {mg : Str → Option Value} (T : Tx K mg) : mg "NoMarks" = some (.ref (He.ga K "NoMarks")) := let ⟨_, X, G⟩ := T.ns; He.glo_ok X G (T.says.fact 2)
theorem Tx.g_NoPlant {K : PySem.W.Frag} {mg : Str → Option Value} (T : Tx K mg) : mg "NoPlant" = some (.ref (He.ga K "NoPlant")) := let ⟨_, X, G⟩ := T.ns; He.glo_ok X G (T.says.fact 3)
theorem Tx.g_NoPlace {K : PySem.W.Frag} {mg : Str → Option Value} (T : Tx K mg) : mg "NoPlace" = some (.ref (He.ga K "NoPlace")) := let ⟨_, X, G⟩ := T.ns; He.glo_ok X G (T.says.fact 4)
theorem Tx.g_NoOrder {K : PySem.W.Frag} {mg : Str → Option Value} (T : Tx K mg) : mg "NoOrder" = some (.ref (He.ga K "NoOrder")) := let ⟨_, X, G⟩ := T.ns; He.glo_ok X G (T.says.fact 5)
theorem Tx.g_NoAnswer {K : PySem.W.Frag} {mg : Str → Option Value} (T : Tx K mg) : mg "NoAnswer" = some (.ref (He.ga K "NoAnswer")) := let ⟨_, X, G⟩ := T.ns; He.glo_ok X G (T.says.fact 6)
theorem Tx.g_NoText {K : PySem.W.Frag} {mg : Str → Option Value} (T : Tx K mg) : mg "NoText" = some (.ref (He.ga K "NoText")) := let ⟨_, X, G⟩ := T.ns; He.glo_ok X G (T.says.fact 7)
theorem Tx.g_NoNumber {K : PySem.W.Frag} {mg : Str → Option Value} (T : Tx K mg) : mg "NoNumber" = some (.ref (He.ga K "NoNumber")) := let ⟨_, X, G⟩ := T.ns; He.glo_ok X G (T.says.fact 8)
theorem Tx.g_NoNews {K : PySem.W.Frag} {mg : Str → Option Value} (T : Tx K mg) : mg "NoNews" = some (.ref (He.ga K "NoNews")) := let ⟨_, X, G⟩ := T.ns; He.glo_ok X G (T.says.fact 9)
theorem Tx.g_NoSituation {K : PySem.W.Frag} {mg : Str → Option Value} (T : Tx K mg) : mg "NoSituation" = some (.ref (He.ga K "NoSituation")) := let ⟨_, X, G⟩ := T.ns; He.glo_ok X G (T.says.fact 10)
theorem Tx.g_TooMuch {K : PySem.W.Frag} {mg : Str → Option Value} (T : Tx K mg) : mg "TooMuch" = some (.ref (He.ga K "TooMuch")) := let ⟨_, X, G⟩ := T.ns; He.glo_ok X G (T.says.fact 11)
theorem Tx.g_is_between {K : PySem.W.Frag} {mg : Str → Option Value} (T : Tx K mg) : mg "is_between" = some (.ref (He.ga K "is_between")) := let ⟨_, X, G⟩ := T.ns; He.glo_ok X G (T.says.fact 12)
theorem Tx.g_are_ascending {K : PySem.W.Frag} {mg : Str → Option Value} (T : Tx K mg) : mg "are_ascending" = some (.ref (He.ga K "are_ascending")) := let ⟨_, X, G⟩ := T.ns; He.glo_ok X G (T.says.fact 13)
theorem Tx.g_are_moves {K : PySem.W.Frag} {mg : Str → Option Value} (T : Tx K mg) : mg "are_moves" = some (.ref (He.ga K "are_moves")) := let ⟨_, X, G⟩ := T.ns; He.glo_ok X G (T.says.fact 14)
theorem Tx.g_is_place {K : PySem.W.Frag} {mg : Str → Option Value} (T : Tx K mg) : mg "is_place" = some (.ref (He.ga K "is_place")) := let ⟨_, X, G⟩ := T.ns; He.glo_ok X G (T.says.fact 15)
theorem Tx.g_is_order {K : PySem.W.Frag} {mg : Str → Option Value} (T : Tx K mg) : mg "is_order" = some (.ref (He.ga K "is_order")) := let ⟨_, X, G⟩ := T.ns; He.glo_ok X G (T.says.fact 16)
theorem Tx.g_need_plant {K : PySem.W.Frag} {mg : Str → Option Value} (T : Tx K mg) : mg "need_plant" = some (.ref (He.ga K "need_plant")) := let ⟨_, X, G⟩ := T.ns; He.glo_ok X G (T.says.fact 17)
theorem Tx.g_need_place {K : PySem.W.Frag} {mg : Str → Option Value} (T : Tx K mg) : mg "need_place" = some (.ref (He.ga K "need_place")) := let ⟨_, X, G⟩ := T.ns; He.glo_ok X G (T.says.fact 18)
theorem Tx.g_need_order {K : PySem.W.Frag} {mg : Str → Option Value} (T : Tx K mg) : mg "need_order" = some (.ref (He.ga K "need_order")) := let ⟨_, X, G⟩ := T.ns; He.glo_ok X G (T.says.fact 19)
theorem Tx.g_is_triple {K : PySem.W.Frag} {mg : Str → Option Value} (T : Tx K mg) : mg "is_triple" = some (.ref (He.ga K "is_triple")) := let ⟨_, X, G⟩ := T.ns; He.glo_ok X G (T.says.fact 20)
theorem Tx.g_answered {K : PySem.W.Frag} {mg : Str → Option Value} (T : Tx K mg) : mg "answered" = some (.ref (He.ga K "answered")) := let ⟨_, X, G⟩ := T.ns; He.glo_ok X G (T.says.fact 21)
theorem Tx.g_Plant {K : PySem.W.Frag} {mg : Str → Option Value} (T : Tx K mg) : mg "Plant" = some (.ref (He.ga K "Plant")) := let ⟨_, X, G⟩ := T.ns; He.glo_ok X G (T.says.fact 22)
theorem Tx.g_led {K : PySem.W.Frag} {mg : Str → Option Value} (T : Tx K mg) : mg "led" = some (.ref (He.ga K "led")) := let ⟨_, X, G⟩ := T.ns; He.glo_ok X G (T.says.fact 23)
theorem Tx.g_after {K : PySem.W.Frag} {mg : Str → Option Value} (T : Tx K mg) : mg "after" = some (.ref (He.ga K "after")) := let ⟨_, X, G⟩ := T.ns; He.glo_ok X G (T.says.fact 24)
theorem Tx.g_is_row {K : PySem.W.Frag} {mg : Str → Option Value} (T : Tx K mg) : mg "is_row" = some (.ref (He.ga K "is_row")) := let ⟨_, X, G⟩ := T.ns; He.glo_ok X G (T.says.fact 25)
theorem Tx.g_is_situation {K : PySem.W.Frag} {mg : Str → Option Value} (T : Tx K mg) : mg "is_situation" = some (.ref (He.ga K "is_situation")) := let ⟨_, X, G⟩ := T.ns; He.glo_ok X G (T.says.fact 26)
theorem Tx.g_need_situation {K : PySem.W.Frag} {mg : Str → Option Value} (T : Tx K mg) : mg "need_situation" = some (.ref (He.ga K "need_situation")) := let ⟨_, X, G⟩ := T.ns; He.glo_ok X G (T.says.fact 27)
theorem Tx.g_stands {K : PySem.W.Frag} {mg : Str → Option Value} (T : Tx K mg) : mg "stands" = some (.ref (He.ga K "stands")) := let ⟨_, X, G⟩ := T.ns; He.glo_ok X G (T.says.fact 28)
theorem Tx.g_are_clear {K : PySem.W.Frag} {mg : Str → Option Value} (T : Tx K mg) : mg "are_clear" = some (.ref (He.ga K "are_clear")) := let ⟨_, X, G⟩ := T.ns; He.glo_ok X G (T.says.fact 29)
theorem Tx.g_need_number {K : PySem.W.Frag} {mg : Str → Option Value} (T : Tx K mg) : mg "need_number" = some (.ref (He.ga K "need_number")) := let ⟨_, X, G⟩ := T.ns; He.glo_ok X G (T.says.fact 30)
theorem Tx.g_due_in {K : PySem.W.Frag} {mg : Str → Option Value} (T : Tx K mg) : mg "due_in" = some (.ref (He.ga K "due_in")) := let ⟨_, X, G⟩ := T.ns; He.glo_ok X G (T.says.fact 31)
theorem Tx.g_next_in {K : PySem.W.Frag} {mg : Str → Option Value} (T : Tx K mg) : mg "next_in" = some (.ref (He.ga K "next_in")) := let ⟨_, X, G⟩ := T.ns; He.glo_ok X G (T.says.fact 32)
theorem Tx.g_numbers_of {K : PySem.W.Frag} {mg : Str → Option Value} (T : Tx K mg) : mg "numbers_of" = some (.ref (He.ga K "numbers_of")) := let ⟨_, X, G⟩ := T.ns; He.glo_ok X G (T.says.fact 33)
theorem Tx.g_News {K : PySem.W.Frag} {mg : Str → Option Value} (T : Tx K mg) : mg "News" = some (.ref (He.ga K "News")) := let ⟨_, X, G⟩ := T.ns; He.glo_ok X G (T.says.fact 34)
theorem Tx.g_Late {K : PySem.W.Frag} {mg : Str → Option Value} (T : Tx K mg) : mg "Late" = some (.ref (He.ga K "Late")) := let ⟨_, X, G⟩ := T.ns; He.glo_ok X G (T.says.fact 35)
theorem Tx.g_Lost {K : PySem.W.Frag} {mg : Str → Option Value} (T : Tx K mg) : mg "Lost" = some (.ref (He.ga K "Lost")) := let ⟨_, X, G⟩ := T.ns; He.glo_ok X G (T.says.fact 36)
theorem Tx.g_LateLost {K : PySem.W.Frag} {mg : Str → Option Value} (T : Tx K mg) : mg "LateLost" = some (.ref (He.ga K "LateLost")) := let ⟨_, X, G⟩ := T.ns; He.glo_ok X G (T.says.fact 37)
theorem Tx.g_need_news {K : PySem.W.Frag} {mg : Str → Option Value} (T : Tx K mg) : mg "need_news" = some (.ref (He.ga K "need_news")) := let ⟨_, X, G⟩ := T.ns; He.glo_ok X G (T.says.fact 38)
theorem Tx.g_need_all {K : PySem.W.Frag} {mg : Str → Option Value} (T : Tx K mg) : mg "need_all" = some (.ref (He.ga K "need_all")) := let ⟨_, X, G⟩ := T.ns; He.glo_ok X G (T.says.fact 39)
theorem Tx.g_is_clear {K : PySem.W.Frag} {mg : Str → Option Value} (T : Tx K mg) : mg "is_clear" = some (.ref (He.ga K "is_clear")) := let ⟨_, X, G⟩ := T.ns; He.glo_ok X G (T.says.fact 40)
theorem Tx.g_ways_from {K : PySem.W.Frag} {mg : Str → Option Value} (T : Tx K mg) : mg "ways_from" = some (.ref (He.ga K "ways_from")) := let ⟨_, X, G⟩ := T.ns; He.glo_ok X G (T.says.fact 41)
theorem Tx.g_ranks_in {K : PySem.W.Frag} {mg : Str → Option Value} (T : Tx K mg) : mg "ranks_in" = some (.ref (He.ga K "ranks_in")) := let ⟨_, X, G⟩ := T.ns; He.glo_ok X G (T.says.fact 42)
theorem Tx.g_is_defeated {K : PySem.W.Frag} {mg : Str → Option Value} (T : Tx K mg) : mg "is_defeated" = some (.ref (He.ga K "is_defeated")) := let ⟨_, X, G⟩ := T.ns; He.glo_ok X G (T.says.fact 43)
theorem Tx.g_rank_in {K : PySem.W.Frag} {mg : Str → Option Value} (T : Tx K mg) : mg "rank_in" = some (.ref (He.ga K "rank_in")) := let ⟨_, X, G⟩ := T.ns; He.glo_ok X G (T.says.fact 44)
theorem Tx.g_least_ranked {K : PySem.W.Frag} {mg : Str → Option Value} (T : Tx K mg) : mg "least_ranked" = some (.ref (He.ga K "least_ranked")) := let ⟨_, X, G⟩ := T.ns; He.glo_ok X G (T.says.fact 45)
theorem Tx.g_triples_from {K : PySem.W.Frag} {mg : Str → Option Value} (T : Tx K mg) : mg "triples_from" = some (.ref (He.ga K "triples_from")) := let ⟨_, X, G⟩ := T.ns; He.glo_ok X G (T.says.fact 46)
theorem Tx.g_keeps {K : PySem.W.Frag} {mg : Str → Option Value} (T : Tx K mg) : mg "keeps" = some (.ref (He.ga K "keeps")) := let ⟨_, X, G⟩ := T.ns; He.glo_ok X G (T.says.fact 47)
theorem Tx.g_verdict {K : PySem.W.Frag} {mg : Str → Option Value} (T : Tx K mg) : mg "verdict" = some (.ref (He.ga K "verdict")) := let ⟨_, X, G⟩ := T.ns; He.glo_ok X G (T.says.fact 48)
theorem Tx.g_way_to {K : PySem.W.Frag} {mg : Str → Option Value} (T : Tx K mg) : mg "way_to" = some (.ref (He.ga K "way_to")) := let ⟨_, X, G⟩ := T.ns; He.glo_ok X G (T.says.fact 49)
theorem Tx.g_used_in {K : PySem.W.Frag} {mg : Str → Option Value} (T : Tx K mg) : mg "used_in" = some (.ref (He.ga K "used_in")) := let ⟨_, X, G⟩ := T.ns; He.glo_ok X G (T.says.fact 50)
theorem Tx.g_helpful {K : PySem.W.Frag} {mg : Str → Option Value} (T : Tx K mg) : mg "helpful" = some (.ref (He.ga K "helpful")) := let ⟨_, X, G⟩ := T.ns; He.glo_ok X G (T.says.fact 51)
theorem Tx.g_is_kept {K : PySem.W.Frag} {mg : Str → Option Value} (T : Tx K mg) : mg "is_kept" = some (.ref (He.ga K "is_kept")) := let ⟨_, X, G⟩ := T.ns; He.glo_ok X G (T.says.fact 52)
theorem Tx.g_mend {K : PySem.W.Frag} {mg : Str → Option Value} (T : Tx K mg) : mg "mend" = some (.ref (He.ga K "mend")) := let ⟨_, X, G⟩ := T.ns; He.glo_ok X G (T.says.fact 53)
theorem Tx.g_shows_mend {K : PySem.W.Frag} {mg : Str → Option Value} (T : Tx K mg) : mg "shows_mend" = some (.ref (He.ga K "shows_mend")) := let ⟨_, X, G⟩ := T.ns; He.glo_ok X G (T.says.fact 54)
theorem Tx.g_law_cell_at {K : PySem.W.Frag} {mg : Str → Option Value} (T : Tx K mg) : mg "_law_cell_at" = some (.ref (He.ga K "_law_cell_at")) := let ⟨_, X, G⟩ := T.ns; He.glo_ok X G (T.says.fact 55)
theorem Tx.g_law_pen {K : PySem.W.Frag} {mg : Str → Option Value} (T : Tx K mg) : mg "_law_pen" = some (.ref (He.ga K "_law_pen")) := let ⟨_, X, G⟩ := T.ns; He.glo_ok X G (T.says.fact 56)
theorem Tx.g_law_draw {K : PySem.W.Frag} {mg : Str → Option Value} (T : Tx K mg) : mg "_law_draw" = some (.ref (He.ga K "_law_draw")) := let ⟨_, X, G⟩ := T.ns; He.glo_ok X G (T.says.fact 57)
theorem Tx.g_law_mixed {K : PySem.W.Frag} {mg : Str → Option Value} (T : Tx K mg) : mg "_law_mixed" = some (.ref (He.ga K "_law_mixed")) := let ⟨_, X, G⟩ := T.ns; He.glo_ok X G (T.says.fact 58)
theorem Tx.g_law_answers {K : PySem.W.Frag} {mg : Str → Option Value} (T : Tx K mg) : mg "_law_answers" = some (.ref (He.ga K "_law_answers")) := let ⟨_, X, G⟩ := T.ns; He.glo_ok X G (T.says.fact 59)
theorem Tx.g_law_moves {K : PySem.W.Frag} {mg : Str → Option Value} (T : Tx K mg) : mg "_law_moves" = some (.ref (He.ga K "_law_moves")) := let ⟨_, X, G⟩ := T.ns; He.glo_ok X G (T.says.fact 60)
theorem Tx.g_law_made {K : PySem.W.Frag} {mg : Str → Option Value} (T : Tx K mg) : mg "_law_made" = some (.ref (He.ga K "_law_made")) := let ⟨_, X, G⟩ := T.ns; He.glo_ok X G (T.says.fact 61)
theorem Tx.g_law_row {K : PySem.W.Frag} {mg : Str → Option Value} (T : Tx K mg) : mg "_law_row" = some (.ref (He.ga K "_law_row")) := let ⟨_, X, G⟩ := T.ns; He.glo_ok X G (T.says.fact 62)
theorem Tx.g_law_news {K : PySem.W.Frag} {mg : Str → Option Value} (T : Tx K mg) : mg "_law_news" = some (.ref (He.ga K "_law_news")) := let ⟨_, X, G⟩ := T.ns; He.glo_ok X G (T.says.fact 63)
theorem Tx.g_law_numbers {K : PySem.W.Frag} {mg : Str → Option Value} (T : Tx K mg) : mg "_law_numbers" = some (.ref (He.ga K "_law_numbers")) := let ⟨_, X, G⟩ := T.ns; He.glo_ok X G (T.says.fact 64)
theorem Tx.g_law_some_situation {K : PySem.W.Frag} {mg : Str → Option Value} (T : Tx K mg) : mg "_law_some_situation" = some (.ref (He.ga K "_law_some_situation")) := let ⟨_, X, G⟩ := T.ns; He.glo_ok X G (T.says.fact 65)
theorem Tx.g_law_every {K : PySem.W.Frag} {mg : Str → Option Value} (T : Tx K mg) : mg "_law_every" = some (.ref (He.ga K "_law_every")) := let ⟨_, X, G⟩ := T.ns; He.glo_ok X G (T.says.fact 66)
theorem Tx.g_law_bad_parts {K : PySem.W.Frag} {mg : Str → Option Value} (T : Tx K mg) : mg "_law_bad_parts" = some (.ref (He.ga K "_law_bad_parts")) := let ⟨_, X, G⟩ := T.ns; He.glo_ok X G (T.says.fact 67)
theorem Tx.g_law_few {K : PySem.W.Frag} {mg : Str → Option Value} (T : Tx K mg) : mg "_law_few" = some (.ref (He.ga K "_law_few")) := let ⟨_, X, G⟩ := T.ns; He.glo_ok X G (T.says.fact 68)
theorem Tx.g_law_without {K : PySem.W.Frag} {mg : Str → Option Value} (T : Tx K mg) : mg "_law_without" = some (.ref (He.ga K "_law_without")) := let ⟨_, X, G⟩ := T.ns; He.glo_ok X G (T.says.fact 69)
theorem Tx.g_law_right {K : PySem.W.Frag} {mg : Str → Option Value} (T : Tx K mg) : mg "_law_right" = some (.ref (He.ga K "_law_right")) := let ⟨_, X, G⟩ := T.ns; He.glo_ok X G (T.says.fact 70)
theorem Tx.g_law_more_right {K : PySem.W.Frag} {mg : Str → Option Value} (T : Tx K mg) : mg "_law_more_right" = some (.ref (He.ga K "_law_more_right")) := let ⟨_, X, G⟩ := T.ns; He.glo_ok X G (T.says.fact 71)
theorem Tx.g_law {K : PySem.W.Frag} {mg : Str → Option Value} (T : Tx K mg) : mg "law" = some (.ref (He.ga K "law")) := let ⟨_, X, G⟩ := T.ns; He.glo_ok X G (T.says.fact 72)
theorem Tx.b_isinstance {K : PySem.W.Frag} {mg : Str → Option Value} (T : Tx K mg) : mg "isinstance" = none := let ⟨_, X, G⟩ := T.ns; He.free_ok X G (T.says.fact 73)
theorem Tx.b_int {K : PySem.W.Frag} {mg : Str → Option Value} (T : Tx K mg) : mg "int" = none := let ⟨_, X, G⟩ := T.ns; He.free_ok X G (T.says.fact 74)
theorem Tx.b_bool {K : PySem.W.Frag} {mg : Str → Option Value} (T : Tx K mg) : mg "bool" = none := let ⟨_, X, G⟩ := T.ns; He.free_ok X G (T.says.fact 75)
theorem Tx.b_tuple {K : PySem.W.Frag} {mg : Str → Option Value} (T : Tx K mg) : mg "tuple" = none := let ⟨_, X, G⟩ := T.ns; He.free_ok X G (T.says.fact 76)
theorem Tx.b_all {K : PySem.W.Frag} {mg : Str → Option Value} (T : Tx K mg) : mg "all" = none := let ⟨_, X, G⟩ := T.ns; He.free_ok X G (T.says.fact 77)
theorem Tx.b_any {K : PySem.W.Frag} {mg : Str → Option Value} (T : Tx K mg) : mg "any" = none := let ⟨_, X, G⟩ := T.ns; He.free_ok X G (T.says.fact 78)
theorem Tx.b_list {K : PySem.W.Frag} {mg : Str → Option Value} (T : Tx K mg) : mg "list" = none := let ⟨_, X, G⟩ := T.ns; He.free_ok X G (T.says.fact 79)
theorem Tx.b_sorted {K : PySem.W.Frag} {mg : Str → Option Value} (T : Tx K mg) : mg "sorted" = none := let ⟨_, X, G⟩ := T.ns; He.free_ok X G (T.says.fact 80)
theorem Tx.b_set {K : PySem.W.Frag} {mg : Str → Option Value} (T : Tx K mg) : mg "set" = none := let ⟨_, X, G⟩ := T.ns; He.free_ok X G (T.says.fact 81)
theorem Tx.b_len {K : PySem.W.Frag} {mg : Str → Option Value} (T : Tx K mg) : mg "len" = none := let ⟨_, X, G⟩ := T.ns; He.free_ok X G (T.says.fact 82)
theorem Tx.b_range {K : PySem.W.Frag} {mg : Str → Option Value} (T : Tx K mg) : mg "range" = none := let ⟨_, X, G⟩ := T.ns; He.free_ok X G (T.says.fact 83)
theorem Tx.b_enumerate {K : PySem.W.Frag} {mg : Str → Option Value} (T : Tx K mg) : mg "enumerate" = none := let ⟨_, X, G⟩ := T.ns; He.free_ok X G (T.says.fact 84)
theorem Tx.b_min {K : PySem.W.Frag} {mg : Str → Option Value} (T : Tx K mg) : mg "min" = none := let ⟨_, X, G⟩ := T.ns; He.free_ok X G (T.says.fact 85)
theorem Tx.b_max {K : PySem.W.Frag} {mg : Str → Option Value} (T : Tx K mg) : mg "max" = none := let ⟨_, X, G⟩ := T.ns; He.free_ok X G (T.says.fact 86)
theorem Tx.i_MOST_PLACES {K : PySem.W.Frag} {mg : Str → Option Value} (T : Tx K mg) : ∃ t, mg "MOST_PLACES" = some (.int 6 t) := let ⟨_, X, G⟩ := T.ns; He.int_ok X G (T.says.fact 87)
theorem Tx.i_MOST_ORDERS {K : PySem.W.Frag} {mg : Str → Option Value} (T : Tx K mg) : ∃ t, mg "MOST_ORDERS" = some (.int 3 t) := let ⟨_, X, G⟩ := T.ns; He.int_ok X G (T.says.fact 88)
theorem Tx.i_MOST_ROW {K : PySem.W.Frag} {mg : Str → Option Value} (T : Tx K mg) : ∃ t, mg "MOST_ROW" = some (.int 8 t) := let ⟨_, X, G⟩ := T.ns; He.int_ok X G (T.says.fact 89)
theorem Tx.i_MOST {K : PySem.W.Frag} {mg : Str → Option Value} (T : Tx K mg) : ∃ t, mg "MOST" = some (.int 4 t) := let ⟨_, X, G⟩ := T.ns; He.int_ok X G (T.says.fact 90)
theorem Tx.t_KEPT {K : PySem.W.Frag} {mg : Str → Option Value} (T : Tx K mg) : ∃ t, mg "KEPT" = some (.str "kept" t) := let ⟨_, X, G⟩ := T.ns; He.str_ok X G (T.says.fact 91)
theorem Tx.t_LOST {K : PySem.W.Frag} {mg : Str → Option Value} (T : Tx K mg) : ∃ t, mg "LOST" = some (.str "lost" t) := let ⟨_, X, G⟩ := T.ns; He.str_ok X G (T.says.fact 92)
theorem Tx.c_Plant {K : PySem.W.Frag} {mg : Str → Option Value} (T : Tx K mg) : Cls K (He.ga K "Plant") := He.cls_ok (T.says.fact 93)
theorem Tx.mk_Plant {K : PySem.W.Frag} {mg : Str → Option Value} (T : Tx K mg) : Mk K (He.ga K "Plant") (He.ma K (He.ga K "Plant") "__init__") := He.mkr_ok (T.says.fact 94)
theorem Tx.ic_Plant {K : PySem.W.Frag} {mg : Str → Option Value} (T : Tx K mg) : (He.eqO (PySem.W.findIn K (.ref (He.ga K "Plant")) "__class__") (some (some (.builtin "object.__class__")))) = true := T.says.fact 95
theorem Tx.im_Plant {K : PySem.W.Frag} {mg : Str → Option Value} (T : Tx K mg) : (decide (PySem.W.mroIn K (He.ga K "Plant") (.type "object") = some true)) = true := T.says.fact 96
theorem Tx.c_Late {K : PySem.W.Frag} {mg : Str → Option Value} (T : Tx K mg) : Cls K (He.ga K "Late") := He.cls_ok (T.says.fact 97)
theorem Tx.mk_Late {K : PySem.W.Frag} {mg : Str → Option Value} (T : Tx K mg) : Mk K (He.ga K "Late") (He.ma K (He.ga K "Late") "__init__") := He.mkr_ok (T.says.fact 98)
theorem Tx.ic_Late {K : PySem.W.Frag} {mg : Str → Option Value} (T : Tx K mg) : (He.eqO (PySem.W.findIn K (.ref (He.ga K "Late")) "__class__") (some (some (.builtin "object.__class__")))) = true := T.says.fact 99
theorem Tx.im_Late {K : PySem.W.Frag} {mg : Str → Option Value} (T : Tx K mg) : (decide (PySem.W.mroIn K (He.ga K "Late") (.type "object") = some true)) = true := T.says.fact 100
theorem Tx.c_Lost {K : PySem.W.Frag} {mg : Str → Option Value} (T : Tx K mg) : Cls K (He.ga K "Lost") := He.cls_ok (T.says.fact 101)
theorem Tx.mk_Lost {K : PySem.W.Frag} {mg : Str → Option Value} (T : Tx K mg) : Mk K (He.ga K "Lost") (He.ma K (He.ga K "Lost") "__init__") := He.mkr_ok (T.says.fact 102)
theorem Tx.ic_Lost {K : PySem.W.Frag} {mg : Str → Option Value} (T : Tx K mg) : (He.eqO (PySem.W.findIn K (.ref (He.ga K "Lost")) "__class__") (some (some (.builtin "object.__class__")))) = true := T.says.fact 103
theorem Tx.im_Lost {K : PySem.W.Frag} {mg : Str → Option Value} (T : Tx K mg) : (decide (PySem.W.mroIn K (He.ga K "Lost") (.type "object") = some true)) = true := T.says.fact 104
theorem Tx.c_LateLost {K : PySem.W.Frag} {mg : Str → Option Value} (T : Tx K mg) : Cls K (He.ga K "LateLost") := He.cls_ok (T.says.fact 105)
theorem Tx.mk_LateLost {K : PySem.W.Frag} {mg : Str → Option Value} (T : Tx K mg) : Mk K (He.ga K "LateLost") (He.ma K (He.ga K "LateLost") "__init__") := He.mkr_ok (T.says.fact 106)
theorem Tx.ic_LateLost {K : PySem.W.Frag} {mg : Str → Option Value} (T : Tx K mg) : (He.eqO (PySem.W.findIn K (.ref (He.ga K "LateLost")) "__class__") (some (some (.builtin "object.__class__")))) = true := T.says.fact 107
theorem Tx.im_LateLost {K : PySem.W.Frag} {mg : Str → Option Value} (T : Tx K mg) : (decide (PySem.W.mroIn K (He.ga K "LateLost") (.type "object") = some true)) = true := T.says.fact 108
theorem Tx.na_rows {K : PySem.W.Frag} {mg : Str → Option Value} (T : Tx K mg) : NoAttr K (He.ga K "Plant") "rows" := He.noat_ok (T.says.fact 109)
theorem Tx.na_marks {K : PySem.W.Frag} {mg : Str → Option Value} (T : Tx K mg) : NoAttr K (He.ga K "Plant") "marks" := He.noat_ok (T.says.fact 110)
theorem Tx.na_Late {K : PySem.W.Frag} {mg : Str → Option Value} (T : Tx K mg) : NoAttr K (He.ga K "Late") "numbers" := He.noat_ok (T.says.fact 111)
theorem Tx.na_Lost {K : PySem.W.Frag} {mg : Str → Option Value} (T : Tx K mg) : NoAttr K (He.ga K "Lost") "numbers" := He.noat_ok (T.says.fact 112)
theorem Tx.na_LateLost {K : PySem.W.Frag} {mg : Str → Option Value} (T : Tx K mg) : NoAttr K (He.ga K "LateLost") "numbers" := He.noat_ok (T.says.fact 113)
theorem Tx.ig {K : PySem.W.Frag} {mg : Str → Option Value} (T : Tx K mg) : (He.eqO (PySem.W.specialIn K (.builtin "object.__class__") "__get__") (some (some (.builtin "getset_descriptor.__get__")))) = true := T.says.fact 114
theorem Tx.it {K : PySem.W.Frag} {mg : Str → Option Value} (T : Tx K mg) : (decide (PySem.W.takesIn K (.builtin "object.__class__") = some true)) = true := T.says.fact 115
theorem Tx.ki_Plant {K : PySem.W.Frag} {mg : Str → Option Value} (T : Tx K mg) : (decide (PySem.W.kitOne K (.ref (He.ga K "Plant")) (.ref (He.ga K "Plant")) = some true)) = true := T.says.fact 116
theorem Tx.ki_Late {K : PySem.W.Frag} {mg : Str → Option Value} (T : Tx K mg) : (decide (PySem.W.kitAny K (.ref (He.ga K "Late")) [.ref (He.ga K "Late"), .ref (He.ga K "Lost")] = some true)) = true := T.says.fact 117
theorem Tx.ki_Lost {K : PySem.W.Frag} {mg : Str → Option Value} (T : Tx K mg) : (decide (PySem.W.kitAny K (.ref (He.ga K "Lost")) [.ref (He.ga K "Late"), .ref (He.ga K "Lost")] = some true)) = true := T.says.fact 118
theorem Tx.ki_LateLost {K : PySem.W.Frag} {mg : Str → Option Value} (T : Tx K mg) : (decide (PySem.W.kitAny K (.ref (He.ga K "LateLost")) [.ref (He.ga K "Late"), .ref (He.ga K "Lost")] = some true)) = true := T.says.fact 119
theorem Tx.p_Plant_moves {K : PySem.W.Frag} {mg : Str → Option Value} (T : Tx K mg) : PropOf K (He.ga K "Plant") "moves" (He.ma K (He.ga K "Plant") "moves") (gAd K "Plant" "moves") := propB_ok (T.says.fact 120)
theorem Tx.p_Plant_bad {K : PySem.W.Frag} {mg : Str → Option Value} (T : Tx K mg) : PropOf K (He.ga K "Plant") "bad" (He.ma K (He.ga K "Plant") "bad") (gAd K "Plant" "bad") := propB_ok (T.says.fact 121)
theorem Tx.p_Plant_goal {K : PySem.W.Frag} {mg : Str → Option Value} (T : Tx K mg) : PropOf K (He.ga K "Plant") "goal" (He.ma K (He.ga K "Plant") "goal") (gAd K "Plant" "goal") := propB_ok (T.says.fact 122)
theorem Tx.p_Plant_places {K : PySem.W.Frag} {mg : Str → Option Value} (T : Tx K mg) : PropOf K (He.ga K "Plant") "places" (He.ma K (He.ga K "Plant") "places") (gAd K "Plant" "places") := propB_ok (T.says.fact 123)
theorem Tx.p_Plant_orders {K : PySem.W.Frag} {mg : Str → Option Value} (T : Tx K mg) : PropOf K (He.ga K "Plant") "orders" (He.ma K (He.ga K "Plant") "orders") (gAd K "Plant" "orders") := propB_ok (T.says.fact 124)
theorem Tx.p_Late_late {K : PySem.W.Frag} {mg : Str → Option Value} (T : Tx K mg) : PropOf K (He.ga K "Late") "late" (He.ma K (He.ga K "News") "late") (gAd K "News" "late") := propB_ok (T.says.fact 125)
theorem Tx.p_Late_lost {K : PySem.W.Frag} {mg : Str → Option Value} (T : Tx K mg) : PropOf K (He.ga K "Late") "lost" (He.ma K (He.ga K "News") "lost") (gAd K "News" "lost") := propB_ok (T.says.fact 126)
theorem Tx.p_Lost_late {K : PySem.W.Frag} {mg : Str → Option Value} (T : Tx K mg) : PropOf K (He.ga K "Lost") "late" (He.ma K (He.ga K "News") "late") (gAd K "News" "late") := propB_ok (T.says.fact 127)
theorem Tx.p_Lost_lost {K : PySem.W.Frag} {mg : Str → Option Value} (T : Tx K mg) : PropOf K (He.ga K "Lost") "lost" (He.ma K (He.ga K "News") "lost") (gAd K "News" "lost") := propB_ok (T.says.fact 128)
theorem Tx.p_LateLost_late {K : PySem.W.Frag} {mg : Str → Option Value} (T : Tx K mg) : PropOf K (He.ga K "LateLost") "late" (He.ma K (He.ga K "News") "late") (gAd K "News" "late") := propB_ok (T.says.fact 129)
theorem Tx.p_LateLost_lost {K : PySem.W.Frag} {mg : Str → Option Value} (T : Tx K mg) : PropOf K (He.ga K "LateLost") "lost" (He.ma K (He.ga K "News") "lost") (gAd K "News" "lost") := propB_ok (T.says.fact 130)
theorem Tx.co {K : PySem.W.Frag} {mg : Str → Option Value} (T : Tx K mg) : (He.eqO (PySem.W.findIn K (.ref (He.ga K "Plant")) "__call__") (some (some (.ref (He.ma K (He.ga K "Plant") "__call__")))) && (PySem.W.isFn K (.ref (He.ma K (He.ga K "Plant") "__call__")) && PySem.W.fnIn K (He.ma K (He.ga K "Plant") "__call__"))) = true := T.says.fact 131
theorem Tx.m_len {K : PySem.W.Frag} {mg : Str → Option Value} (T : Tx K mg) : Meth K (He.ga K "Plant") "__len__" (He.ma K (He.ga K "Plant") "__len__") := He.meth_ok (T.says.fact 132)
theorem Tx.m_contains {K : PySem.W.Frag} {mg : Str → Option Value} (T : Tx K mg) : Meth K (He.ga K "Plant") "__contains__" (He.ma K (He.ga K "Plant") "__contains__") := He.meth_ok (T.says.fact 133)
theorem Tx.m_sub {K : PySem.W.Frag} {mg : Str → Option Value} (T : Tx K mg) : Meth K (He.ga K "Plant") "__sub__" (He.ma K (He.ga K "Plant") "__sub__") := He.meth_ok (T.says.fact 134)
theorem Tx.m_add {K : PySem.W.Frag} {mg : Str → Option Value} (T : Tx K mg) : Meth K (He.ga K "Plant") "__add__" (He.ma K (He.ga K "Plant") "__add__") := He.meth_ok (T.says.fact 135)
theorem Tx.sf {K : PySem.W.Frag} {mg : Str → Option Value} (T : Tx K mg) : (PySem.W.selfFirst K (He.ga K "Plant")) = true := T.says.fact 136
theorem Tx.rs {K : PySem.W.Frag} {mg : Str → Option Value} (T : Tx K mg) : (He.eqO (PySem.W.findIn K (.ref (He.ga K "Plant")) (dunderR "sub")) (some none)) = true := T.says.fact 137
theorem Tx.ra {K : PySem.W.Frag} {mg : Str → Option Value} (T : Tx K mg) : (He.eqO (PySem.W.findIn K (.ref (He.ga K "Plant")) (dunderR "add")) (some none)) = true := T.says.fact 138
theorem Tx.su {K : PySem.W.Frag} {mg : Str → Option Value} (T : Tx K mg) : (decide (PySem.W.subIn K (.type "tuple") (.ref (He.ga K "Plant")) = some false)) = true := T.says.fact 139
theorem Tx.df {K : PySem.W.Frag} {mg : Str → Option Value} (T : Tx K mg) : (tupE K (dfA (fun K => He.ma K (He.ga K "Plant") "__init__") 0 K) && tupE K (dfA (fun K => He.ma K (He.ga K "Plant") "__init__") 1 K)) = true := T.says.fact 140
theorem Tx.d_is_between {K : PySem.W.Frag} {mg : Str → Option Value} (T : Tx K mg) : ∃ fd, FunD K "is_between" "is_between" (defArgs s_is_between) (defBody s_is_between) (defScope s_is_between) [] [] (He.ga K "is_between") fd := T.says.def_ 0
theorem Tx.d_are_ascending {K : PySem.W.Frag} {mg : Str → Option Value} (T : Tx K mg) : ∃ fd, FunD K "are_ascending" "are_ascending" (defArgs s_are_ascending) (defBody s_are_ascending) (defScope s_are_ascending) [] [] (He.ga K "are_ascending") fd := T.says.def_ 1
theorem Tx.d_are_moves {K : PySem.W.Frag} {mg : Str → Option Value} (T : Tx K mg) : ∃ fd, FunD K "are_moves" "are_moves" (defArgs s_are_moves) (defBody s_are_moves) (defScope s_are_moves) [] [] (He.ga K "are_moves") fd := T.says.def_ 2
theorem Tx.d_is_place {K : PySem.W.Frag} {mg : Str → Option Value} (T : Tx K mg) : ∃ fd, FunD K "is_place" "is_place" (defArgs s_is_place) (defBody s_is_place) (defScope s_is_place) [] [] (He.ga K "is_place") fd := T.says.def_ 3
theorem Tx.d_is_order {K : PySem.W.Frag} {mg : Str → Option Value} (T : Tx K mg) : ∃ fd, FunD K "is_order" "is_order" (defArgs s_is_order) (defBody s_is_order) (defScope s_is_order) [] [] (He.ga K "is_order") fd := T.says.def_ 4
theorem Tx.d_need_plant {K : PySem.W.Frag} {mg : Str → Option Value} (T : Tx K mg) : ∃ fd, FunD K "need_plant" "need_plant" (defArgs s_need_plant) (defBody s_need_plant) (defScope s_need_plant) [] [] (He.ga K "need_plant") fd := T.says.def_ 5
theorem Tx.d_need_place {K : PySem.W.Frag} {mg : Str → Option Value} (T : Tx K mg) : ∃ fd, FunD K "need_place" "need_place" (defArgs s_need_place) (defBody s_need_place) (defScope s_need_place) [] [] (He.ga K "need_place") fd := T.says.def_ 6
theorem Tx.d_need_order {K : PySem.W.Frag} {mg : Str → Option Value} (T : Tx K mg) : ∃ fd, FunD K "need_order" "need_order" (defArgs s_need_order) (defBody s_need_order) (defScope s_need_order) [] [] (He.ga K "need_order") fd := T.says.def_ 7
theorem Tx.d_is_triple {K : PySem.W.Frag} {mg : Str → Option Value} (T : Tx K mg) : ∃ fd, FunD K "is_triple" "is_triple" (defArgs s_is_triple) (defBody s_is_triple) (defScope s_is_triple) [] [] (He.ga K "is_triple") fd := T.says.def_ 8
theorem Tx.d_answered {K : PySem.W.Frag} {mg : Str → Option Value} (T : Tx K mg) : ∃ fd, FunD K "answered" "answered" (defArgs s_answered) (defBody s_answered) (defScope s_answered) [] [] (He.ga K "answered") fd := T.says.def_ 9
theorem Tx.d_Plant_init {K : PySem.W.Frag} {mg : Str → Option Value} (T : Tx K mg) : ∃ fd, FunD K "__init__" "Plant.__init__" (defArgs s_Plant_init) (defBody s_Plant_init) (defScope s_Plant_init) (d_Plant_init K).dfl [] (He.ma K (He.ga K "Plant") "__init__") fd := T.says.def_ 10
theorem Tx.d_Plant_moves {K : PySem.W.Frag} {mg : Str → Option Value} (T : Tx K mg) : ∃ fd, FunD K "moves" "Plant.moves" (defArgs s_Plant_moves) (defBody s_Plant_moves) (defScope s_Plant_moves) [] [] (gAd K "Plant" "moves") fd := T.says.def_ 11
theorem Tx.d_Plant_bad {K : PySem.W.Frag} {mg : Str → Option Value} (T : Tx K mg) : ∃ fd, FunD K "bad" "Plant.bad" (defArgs s_Plant_bad) (defBody s_Plant_bad) (defScope s_Plant_bad) [] [] (gAd K "Plant" "bad") fd := T.says.def_ 12
theorem Tx.d_Plant_goal {K : PySem.W.Frag} {mg : Str → Option Value} (T : Tx K mg) : ∃ fd, FunD K "goal" "Plant.goal" (defArgs s_Plant_goal) (defBody s_Plant_goal) (defScope s_Plant_goal) [] [] (gAd K "Plant" "goal") fd := T.says.def_ 13
theorem Tx.d_Plant_places {K : PySem.W.Frag} {mg : Str → Option Value} (T : Tx K mg) : ∃ fd, FunD K "places" "Plant.places" (defArgs s_Plant_places) (defBody s_Plant_places) (defScope s_Plant_places) [] [] (gAd K "Plant" "places") fd := T.says.def_ 14
theorem Tx.d_Plant_orders {K : PySem.W.Frag} {mg : Str → Option Value} (T : Tx K mg) : ∃ fd, FunD K "orders" "Plant.orders" (defArgs s_Plant_orders) (defBody s_Plant_orders) (defScope s_Plant_orders) [] [] (gAd K "Plant" "orders") fd := T.says.def_ 15
theorem Tx.d_Plant_call {K : PySem.W.Frag} {mg : Str → Option Value} (T : Tx K mg) : ∃ fd, FunD K "__call__" "Plant.__call__" (defArgs s_Plant_call) (defBody s_Plant_call) (defScope s_Plant_call) [] [] (He.ma K (He.ga K "Plant") "__call__") fd := T.says.def_ 16
theorem Tx.d_Plant_len {K : PySem.W.Frag} {mg : Str → Option Value} (T : Tx K mg) : ∃ fd, FunD K "__len__" "Plant.__len__" (defArgs s_Plant_len) (defBody s_Plant_len) (defScope s_Plant_len) [] [] (He.ma K (He.ga K "Plant") "__len__") fd := T.says.def_ 17
theorem Tx.d_Plant_contains {K : PySem.W.Frag} {mg : Str → Option Value} (T : Tx K mg) : ∃ fd, FunD K "__contains__" "Plant.__contains__" (defArgs s_Plant_contains) (defBody s_Plant_contains) (defScope s_Plant_contains) [] [] (He.ma K (He.ga K "Plant") "__contains__") fd := T.says.def_ 18
theorem Tx.d_Plant_sub {K : PySem.W.Frag} {mg : Str → Option Value} (T : Tx K mg) : ∃ fd, FunD K "__sub__" "Plant.__sub__" (defArgs s_Plant_sub) (defBody s_Plant_sub) (defScope s_Plant_sub) [] [] (He.ma K (He.ga K "Plant") "__sub__") fd := T.says.def_ 19
theorem Tx.d_Plant_add {K : PySem.W.Frag} {mg : Str → Option Value} (T : Tx K mg) : ∃ fd, FunD K "__add__" "Plant.__add__" (defArgs s_Plant_add) (defBody s_Plant_add) (defScope s_Plant_add) [] [] (He.ma K (He.ga K "Plant") "__add__") fd := T.says.def_ 20
theorem Tx.d_led {K : PySem.W.Frag} {mg : Str → Option Value} (T : Tx K mg) : ∃ fd, FunD K "led" "led" (defArgs s_led) (defBody s_led) (defScope s_led) [] [] (He.ga K "led") fd := T.says.def_ 21
theorem Tx.d_after {K : PySem.W.Frag} {mg : Str → Option Value} (T : Tx K mg) : ∃ fd, FunD K "after" "after" (defArgs s_after) (defBody s_after) (defScope s_after) [] [] (He.ga K "after") fd := T.says.def_ 22
theorem Tx.d_is_row {K : PySem.W.Frag} {mg : Str → Option Value} (T : Tx K mg) : ∃ fd, FunD K "is_row" "is_row" (defArgs s_is_row) (defBody s_is_row) (defScope s_is_row) [] [] (He.ga K "is_row") fd := T.says.def_ 23
theorem Tx.d_is_situation {K : PySem.W.Frag} {mg : Str → Option Value} (T : Tx K mg) : ∃ fd, FunD K "is_situation" "is_situation" (defArgs s_is_situation) (defBody s_is_situation) (defScope s_is_situation) [.int 8] [] (He.ga K "is_situation") fd := T.says.def_ 24
theorem Tx.d_need_situation {K : PySem.W.Frag} {mg : Str → Option Value} (T : Tx K mg) : ∃ fd, FunD K "need_situation" "need_situation" (defArgs s_need_situation) (defBody s_need_situation) (defScope s_need_situation) [.int 8] [] (He.ga K "need_situation") fd := T.says.def_ 25
theorem Tx.d_stands {K : PySem.W.Frag} {mg : Str → Option Value} (T : Tx K mg) : ∃ fd, FunD K "stands" "stands" (defArgs s_stands) (defBody s_stands) (defScope s_stands) [] [] (He.ga K "stands") fd := T.says.def_ 26
theorem Tx.d_are_clear {K : PySem.W.Frag} {mg : Str → Option Value} (T : Tx K mg) : ∃ fd, FunD K "are_clear" "are_clear" (defArgs s_are_clear) (defBody s_are_clear) (defScope s_are_clear) [] [] (He.ga K "are_clear") fd := T.says.def_ 27
theorem Tx.d_need_number {K : PySem.W.Frag} {mg : Str → Option Value} (T : Tx K mg) : ∃ fd, FunD K "need_number" "need_number" (defArgs s_need_number) (defBody s_need_number) (defScope s_need_number) [] [] (He.ga K "need_number") fd := T.says.def_ 28
theorem Tx.d_due_in {K : PySem.W.Frag} {mg : Str → Option Value} (T : Tx K mg) : ∃ fd, FunD K "due_in" "due_in" (defArgs s_due_in) (defBody s_due_in) (defScope s_due_in) [] [] (He.ga K "due_in") fd := T.says.def_ 29
theorem Tx.d_next_in {K : PySem.W.Frag} {mg : Str → Option Value} (T : Tx K mg) : ∃ fd, FunD K "next_in" "next_in" (defArgs s_next_in) (defBody s_next_in) (defScope s_next_in) [] [] (He.ga K "next_in") fd := T.says.def_ 30
theorem Tx.d_numbers_of {K : PySem.W.Frag} {mg : Str → Option Value} (T : Tx K mg) : ∃ fd, FunD K "numbers_of" "numbers_of" (defArgs s_numbers_of) (defBody s_numbers_of) (defScope s_numbers_of) [] [] (He.ga K "numbers_of") fd := T.says.def_ 31
theorem Tx.d_News_late {K : PySem.W.Frag} {mg : Str → Option Value} (T : Tx K mg) : ∃ fd, FunD K "late" "News.late" (defArgs s_News_late) (defBody s_News_late) (defScope s_News_late) [] [] (gAd K "News" "late") fd := T.says.def_ 32
theorem Tx.d_News_lost {K : PySem.W.Frag} {mg : Str → Option Value} (T : Tx K mg) : ∃ fd, FunD K "lost" "News.lost" (defArgs s_News_lost) (defBody s_News_lost) (defScope s_News_lost) [] [] (gAd K "News" "lost") fd := T.says.def_ 33
theorem Tx.d_Late_init {K : PySem.W.Frag} {mg : Str → Option Value} (T : Tx K mg) : ∃ fd, FunD K "__init__" "Late.__init__" (defArgs s_Late_init) (defBody s_Late_init) (defScope s_Late_init) [] [] (He.ma K (He.ga K "Late") "__init__") fd := T.says.def_ 34
theorem Tx.d_Lost_init {K : PySem.W.Frag} {mg : Str → Option Value} (T : Tx K mg) : ∃ fd, FunD K "__init__" "Lost.__init__" (defArgs s_Lost_init) (defBody s_Lost_init) (defScope s_Lost_init) [] [] (He.ma K (He.ga K "Lost") "__init__") fd := T.says.def_ 35
theorem Tx.d_LateLost_init {K : PySem.W.Frag} {mg : Str → Option Value} (T : Tx K mg) : ∃ fd, FunD K "__init__" "LateLost.__init__" (defArgs s_LateLost_init) (defBody s_LateLost_init) (defScope s_LateLost_init) [] [] (He.ma K (He.ga K "LateLost") "__init__") fd := T.says.def_ 36
theorem Tx.d_need_news {K : PySem.W.Frag} {mg : Str → Option Value} (T : Tx K mg) : ∃ fd, FunD K "need_news" "need_news" (defArgs s_need_news) (defBody s_need_news) (defScope s_need_news) [] [] (He.ga K "need_news") fd := T.says.def_ 37
theorem Tx.d_need_all {K : PySem.W.Frag} {mg : Str → Option Value} (T : Tx K mg) : ∃ fd, FunD K "need_all" "need_all" (defArgs s_need_all) (defBody s_need_all) (defScope s_need_all) [] [] (He.ga K "need_all") fd := T.says.def_ 38
theorem Tx.d_is_clear {K : PySem.W.Frag} {mg : Str → Option Value} (T : Tx K mg) : ∃ fd, FunD K "is_clear" "is_clear" (defArgs s_is_clear) (defBody s_is_clear) (defScope s_is_clear) [] [] (He.ga K "is_clear") fd := T.says.def_ 39
theorem Tx.d_ways_from {K : PySem.W.Frag} {mg : Str → Option Value} (T : Tx K mg) : ∃ fd, FunD K "ways_from" "ways_from" (defArgs s_ways_from) (defBody s_ways_from) (defScope s_ways_from) [] [] (He.ga K "ways_from") fd := T.says.def_ 40
theorem Tx.d_ranks_in {K : PySem.W.Frag} {mg : Str → Option Value} (T : Tx K mg) : ∃ fd, FunD K "ranks_in" "ranks_in" (defArgs s_ranks_in) (defBody s_ranks_in) (defScope s_ranks_in) [] [] (He.ga K "ranks_in") fd := T.says.def_ 41
theorem Tx.d_is_defeated {K : PySem.W.Frag} {mg : Str → Option Value} (T : Tx K mg) : ∃ fd, FunD K "is_defeated" "is_defeated" (defArgs s_is_defeated) (defBody s_is_defeated) (defScope s_is_defeated) [] [] (He.ga K "is_defeated") fd := T.says.def_ 42
theorem Tx.d_rank_in {K : PySem.W.Frag} {mg : Str → Option Value} (T : Tx K mg) : ∃ fd, FunD K "rank_in" "rank_in" (defArgs s_rank_in) (defBody s_rank_in) (defScope s_rank_in) [] [] (He.ga K "rank_in") fd := T.says.def_ 43
theorem Tx.d_least_ranked {K : PySem.W.Frag} {mg : Str → Option Value} (T : Tx K mg) : ∃ fd, FunD K "least_ranked" "least_ranked" (defArgs s_least_ranked) (defBody s_least_ranked) (defScope s_least_ranked) [] [] (He.ga K "least_ranked") fd := T.says.def_ 44
theorem Tx.d_triples_from {K : PySem.W.Frag} {mg : Str → Option Value} (T : Tx K mg) : ∃ fd, FunD K "triples_from" "triples_from" (defArgs s_triples_from) (defBody s_triples_from) (defScope s_triples_from) [] [] (He.ga K "triples_from") fd := T.says.def_ 45
theorem Tx.d_keeps {K : PySem.W.Frag} {mg : Str → Option Value} (T : Tx K mg) : ∃ fd, FunD K "keeps" "keeps" (defArgs s_keeps) (defBody s_keeps) (defScope s_keeps) [] [] (He.ga K "keeps") fd := T.says.def_ 46
theorem Tx.d_verdict {K : PySem.W.Frag} {mg : Str → Option Value} (T : Tx K mg) : ∃ fd, FunD K "verdict" "verdict" (defArgs s_verdict) (defBody s_verdict) (defScope s_verdict) [] [] (He.ga K "verdict") fd := T.says.def_ 47
theorem Tx.d_way_to {K : PySem.W.Frag} {mg : Str → Option Value} (T : Tx K mg) : ∃ fd, FunD K "way_to" "way_to" (defArgs s_way_to) (defBody s_way_to) (defScope s_way_to) [] [] (He.ga K "way_to") fd := T.says.def_ 48
theorem Tx.d_used_in {K : PySem.W.Frag} {mg : Str → Option Value} (T : Tx K mg) : ∃ fd, FunD K "used_in" "used_in" (defArgs s_used_in) (defBody s_used_in) (defScope s_used_in) [] [] (He.ga K "used_in") fd := T.says.def_ 49
theorem Tx.d_helpful {K : PySem.W.Frag} {mg : Str → Option Value} (T : Tx K mg) : ∃ fd, FunD K "helpful" "helpful" (defArgs s_helpful) (defBody s_helpful) (defScope s_helpful) [] [] (He.ga K "helpful") fd := T.says.def_ 50
theorem Tx.d_is_kept {K : PySem.W.Frag} {mg : Str → Option Value} (T : Tx K mg) : ∃ fd, FunD K "is_kept" "is_kept" (defArgs s_is_kept) (defBody s_is_kept) (defScope s_is_kept) [] [] (He.ga K "is_kept") fd := T.says.def_ 51
theorem Tx.d_mend {K : PySem.W.Frag} {mg : Str → Option Value} (T : Tx K mg) : ∃ fd, FunD K "mend" "mend" (defArgs s_mend) (defBody s_mend) (defScope s_mend) [] [] (He.ga K "mend") fd := T.says.def_ 52
theorem Tx.d_shows_mend {K : PySem.W.Frag} {mg : Str → Option Value} (T : Tx K mg) : ∃ fd, FunD K "shows_mend" "shows_mend" (defArgs s_shows_mend) (defBody s_shows_mend) (defScope s_shows_mend) [] [] (He.ga K "shows_mend") fd := T.says.def_ 53
theorem Tx.d_law_cell_at {K : PySem.W.Frag} {mg : Str → Option Value} (T : Tx K mg) : ∃ fd, FunD K "_law_cell_at" "_law_cell_at" (defArgs s_law_cell_at) (defBody s_law_cell_at) (defScope s_law_cell_at) [] [] (He.ga K "_law_cell_at") fd := T.says.def_ 54
theorem Tx.d_law_pen {K : PySem.W.Frag} {mg : Str → Option Value} (T : Tx K mg) : ∃ fd, FunD K "_law_pen" "_law_pen" (defArgs s_law_pen) (defBody s_law_pen) (defScope s_law_pen) [] [] (He.ga K "_law_pen") fd := T.says.def_ 55
theorem Tx.d_law_draw {K : PySem.W.Frag} {mg : Str → Option Value} (T : Tx K mg) : ∃ fd, FunD K "_law_draw" "_law_draw" (defArgs s_law_draw) (defBody s_law_draw) (defScope s_law_draw) [] [] (He.ga K "_law_draw") fd := T.says.def_ 56
theorem Tx.d_law_mixed {K : PySem.W.Frag} {mg : Str → Option Value} (T : Tx K mg) : ∃ fd, FunD K "_law_mixed" "_law_mixed" (defArgs s_law_mixed) (defBody s_law_mixed) (defScope s_law_mixed) [] [] (He.ga K "_law_mixed") fd := T.says.def_ 57
theorem Tx.d_law_answers {K : PySem.W.Frag} {mg : Str → Option Value} (T : Tx K mg) : ∃ fd, FunD K "_law_answers" "_law_answers" (defArgs s_law_answers) (defBody s_law_answers) (defScope s_law_answers) [] [] (He.ga K "_law_answers") fd := T.says.def_ 58
theorem Tx.d_law_moves {K : PySem.W.Frag} {mg : Str → Option Value} (T : Tx K mg) : ∃ fd, FunD K "_law_moves" "_law_moves" (defArgs s_law_moves) (defBody s_law_moves) (defScope s_law_moves) [] [] (He.ga K "_law_moves") fd := T.says.def_ 59
theorem Tx.d_law_made {K : PySem.W.Frag} {mg : Str → Option Value} (T : Tx K mg) : ∃ fd, FunD K "_law_made" "_law_made" (defArgs s_law_made) (defBody s_law_made) (defScope s_law_made) [] [] (He.ga K "_law_made") fd := T.says.def_ 60
theorem Tx.d_law_row {K : PySem.W.Frag} {mg : Str → Option Value} (T : Tx K mg) : ∃ fd, FunD K "_law_row" "_law_row" (defArgs s_law_row) (defBody s_law_row) (defScope s_law_row) [] [] (He.ga K "_law_row") fd := T.says.def_ 61
theorem Tx.d_law_news {K : PySem.W.Frag} {mg : Str → Option Value} (T : Tx K mg) : ∃ fd, FunD K "_law_news" "_law_news" (defArgs s_law_news) (defBody s_law_news) (defScope s_law_news) [] [] (He.ga K "_law_news") fd := T.says.def_ 62
theorem Tx.d_law_numbers {K : PySem.W.Frag} {mg : Str → Option Value} (T : Tx K mg) : ∃ fd, FunD K "_law_numbers" "_law_numbers" (defArgs s_law_numbers) (defBody s_law_numbers) (defScope s_law_numbers) [] [] (He.ga K "_law_numbers") fd := T.says.def_ 63
theorem Tx.d_law_some_situation {K : PySem.W.Frag} {mg : Str → Option Value} (T : Tx K mg) : ∃ fd, FunD K "_law_some_situation" "_law_some_situation" (defArgs s_law_some_situation) (defBody s_law_some_situation) (defScope s_law_some_situation) [] [] (He.ga K "_law_some_situation") fd := T.says.def_ 64
theorem Tx.d_law_every {K : PySem.W.Frag} {mg : Str → Option Value} (T : Tx K mg) : ∃ fd, FunD K "_law_every" "_law_every" (defArgs s_law_every) (defBody s_law_every) (defScope s_law_every) [] [] (He.ga K "_law_every") fd := T.says.def_ 65
theorem Tx.d_law_bad_parts {K : PySem.W.Frag} {mg : Str → Option Value} (T : Tx K mg) : ∃ fd, FunD K "_law_bad_parts" "_law_bad_parts" (defArgs s_law_bad_parts) (defBody s_law_bad_parts) (defScope s_law_bad_parts) [] [] (He.ga K "_law_bad_parts") fd := T.says.def_ 66
theorem Tx.d_law_few {K : PySem.W.Frag} {mg : Str → Option Value} (T : Tx K mg) : ∃ fd, FunD K "_law_few" "_law_few" (defArgs s_law_few) (defBody s_law_few) (defScope s_law_few) [] [] (He.ga K "_law_few") fd := T.says.def_ 67
theorem Tx.d_law_without {K : PySem.W.Frag} {mg : Str → Option Value} (T : Tx K mg) : ∃ fd, FunD K "_law_without" "_law_without" (defArgs s_law_without) (defBody s_law_without) (defScope s_law_without) [] [] (He.ga K "_law_without") fd := T.says.def_ 68
theorem Tx.d_law_right {K : PySem.W.Frag} {mg : Str → Option Value} (T : Tx K mg) : ∃ fd, FunD K "_law_right" "_law_right" (defArgs s_law_right) (defBody s_law_right) (defScope s_law_right) [] [] (He.ga K "_law_right") fd := T.says.def_ 69
theorem Tx.d_law_more_right {K : PySem.W.Frag} {mg : Str → Option Value} (T : Tx K mg) : ∃ fd, FunD K "_law_more_right" "_law_more_right" (defArgs s_law_more_right) (defBody s_law_more_right) (defScope s_law_more_right) [] [] (He.ga K "_law_more_right") fd := T.says.def_ 70
theorem Tx.d_law {K : PySem.W.Frag} {mg : Str → Option Value} (T : Tx K mg) : ∃ fd, FunD K "law" "law" (defArgs s_law) (defBody s_law) (defScope s_law) [] [] (He.ga K "law") fd := T.says.def_ 71
end Lh
set_option Elab.async false
set_option linter.all false
set_option maxRecDepth 100000
set_option maxHeartbeats 0
namespace LhHead
open PySem PySem.W PySem.Calls PyProof.Rows
abbrev R : OpenRow := OpenLaw.row PySem.Challenge.rw_latehelm_k44_whole_mends_put_to_work
abbrev qv : Program := view R.prog [92]
def nm0 : List PySem.Str := ["HelmError", "NoMoves", "NoMarks", "NoPlant", "NoPlace", "NoOrder", "NoAnswer", "NoText", "NoNumber", "NoNews", "NoSituation", "TooMuch", "MOST_PLACES", "MOST_ORDERS", "DIGITS", "BAD", "GOAL", "BETWEEN", "is_between", "are_ascending", "are_moves", "is_place", "is_order", "need_plant", "need_place", "need_order", "is_triple", "answered", "numbers_in", "Plant"]
def nm1 : List PySem.Str := ["MOST_ROW", "led", "after", "is_row", "is_situation", "need_situation", "stands", "are_clear", "MOST", "need_number", "due_in", "next_in", "numbers_of", "News", "Late", "Lost", "LateLost", "need_news", "need_all", "KEPT", "LOST", "is_clear", "ways_from", "ranks_in", "is_defeated", "rank_in", "order_by", "table_from", "least_ranked", "triples_from"]
def nm2 : List PySem.Str := ["keeps", "verdict", "way_to", "used_in", "helpful", "is_kept", "mend", "shows_mend", "_law_cell_at", "_law_pen", "_law_draw", "_law_mixed", "_law_answers", "_law_moves", "_law_made", "_law_row", "_law_news", "_law_numbers", "_law_some_situation", "_law_every", "_law_bad_parts", "_law_few", "_law_without", "_law_right", "_law_more_right"]
def loose : List PySem.Str := nm0 ++ nm1 ++ nm2
abbrev hk : Hook := Lh.hookL
def ob (s : SharedT) : Bool × List Lh.Sig := Lh.obsF (HandSHeadRun.getT s)
theorem ob_eq (s : SharedT) : ob s = hk.obs s.abs := Lh.obsF_hook (HandSHeadRun.getT_eq s)
theorem run (w : World) : HandSHeadRun.RunEq R qv hk ob 20000 loose w := by
  intro os
  kernel_rfl
end LhHead
set_option Elab.async false
set_option linter.all false
set_option maxRecDepth 100000
set_option maxHeartbeats 4000000
/-! sorted(x): x a list, a tuple, a dict's values, of data (tuples, ints), of any length. -/
namespace Lh
open PySem PySem.Spec PyProof.Rows L2
open PySem.W (EachIs)
section
variable {P : Program} {w : World} {A : Around} {E : Value → Shared → Prop} {s : Shared}
/-- what is gathered from such a source -/
theorem coll_src {T : String} {r d : Addr} {n : Nat} {Pv : Nat → Value → Prop} {OK : Heap → Prop} {Q : List Value → Shared → Prop} (K : PySem.W.KdlSrc P w T r d n Pv OK) (hh : A.handled = none) (hok : OK s.heap) (hn : n ≤ sizeLine)
    (hQ : ∀ h' tk (acc : Array Value), (∀ b o, s.heap.get? b = some o → h'.get? b = some o) → s.heap.objs.size ≤ h'.objs.size → ItemsOf Pv acc n → Q acc.toList { s with heap := h', toks := tk }) :
    wpAny (model P w) A (collect (.ref r)) Q E s := by
  unfold collect
  refine wpAny_bind (wpAny_runValue (codeAny_builtin F.entry_proto_collect ?_))
  rw [Around.under_plainId F.plain_proto_collect _]
  show wpAny _ A.in1 (newList [] >>= fun l => again (.builtin "list.__iadd__" ⟨[l, .ref r], []⟩)) _ _ s
  refine wpAny_bind (wpAny_newObj_type ?_)
  refine wpAny_pure ⟨plainId_quiet F.plain_list_iadd _, codeAny_builtin F.entry_list_iadd ?_⟩
  rw [Around.under_plainId F.plain_list_iadd _]
  have hS : (s.heap.push { cls := .type "list", data := .seq ([] : List Value).toArray }).get? s.heap.objs.size = some { cls := .type "list", data := .seq ([] : List Value).toArray } := Heap.get?_push_size _ rfl
  have hlt := K.there _ hok
  show wpAny _ A.in1 (Builtin.List.listExtendWith (.ref s.heap.objs.size) (.ref r) (.ref s.heap.objs.size)) _ _ _
  have fin : ∀ (h' : Heap) (tk : Nat) (acc : Array Value) (c : Nat), (∀ b o, b ≠ s.heap.objs.size → (s.heap.push { cls := .type "list", data := .seq ([] : List Value).toArray }).get? b = some o → h'.get? b = some o) →
      h'.get? s.heap.objs.size = some { cls := .type "list", dict := none, data := .seq acc c, slots := #[] } → ItemsOf Pv acc n → wpAny (model P w) A (load s.heap.objs.size >>= fun o => match o.data with
        | Data.seq xs _ => pure xs.toList
        | _ => unsupported "internal:collect") Q E { s with heap := h', toks := tk } := fun h' tk acc c hk hS' hacc =>
    wpAny_bind (wpAny_load hS' (wpAny_pure (hQ h' tk acc (fun b o e => hk b o (Nat.ne_of_lt (Heap.lt_size e)) (Heap.get?_push_of_some _ e)) (Nat.le_of_lt (Heap.lt_size hS')) hacc)))
  refine wpAny_mono (PySem.W.kdl_extend (A := A) (s := { s with heap := s.heap.push { cls := .type "list", data := .seq ([] : List Value).toArray } }) (R := fun q s2 => q = .ok (.ret (.ref s.heap.objs.size)) ∧ wpAny (model P w) A (load s.heap.objs.size >>= fun o => match o.data with
        | Data.seq xs _ => pure xs.toList
        | _ => unsupported "internal:collect") Q E s2) K hh (K.keep _ _ hok fun b _ o e => Heap.get?_push_of_some _ e) s.heap.objs.size (Nat.ne_of_gt hlt.1) (Nat.ne_of_gt hlt.2) _ 0 hS
    (fun h' tk acc' c' hk hS' hacc => ⟨rfl, fin h' tk acc' c' hk hS' hacc⟩) hn) (fun q s2 z => ?_) fun e s2 z => absurd z.1 (by simp)
  cases q with
  | done f =>
    obtain ⟨e, z⟩ := z
    cases e
    exact z
  | again c2 => exact ⟨z.1, codeAny_mono z.2 fun r s3 z3 => by obtain ⟨rfl, z3⟩ := z3; exact z3⟩
/-- a dict's values, whatever its keys are -/
theorem src_vals {r d : Addr} {es : Array DictEntry} {ep : Nat} (hl : ∀ h : Heap, h.DictRaw d es ep → d < h.objs.size) : PySem.W.KdlSrc P w "dict_values" r d es.size (fun i v => ∃ hi : i < es.size, v = es[i].val) (fun h => h.IsValuesView r d ∧ h.DictRaw d es ep) where
  type := fun _ hm => hm.1.typeIs
  there := fun h hm => ⟨let ⟨_, ho, _⟩ := hm.1; Heap.lt_size ho, hl h hm.2⟩
  keep := fun _ _ hm hk => ⟨let ⟨o, ho, x⟩ := hm.1; ⟨o, hk r (.inl rfl) o ho, x⟩, hm.2.at fun o e => hk d (.inr rfl) o e⟩
  notList := by decide
  notTuple := by decide
  hint := fun _ _ _ _ hm hq => PySem.W.kdl_hint_values hm.1.typeIs hq
  iter := fun _ s hh hm => ⟨_, _, (fun _ _ hq => PySem.wpAny_pyIter_values_raw hm.1 hm.2 hq), PySem.Walks.rawValues hh _ d (Nat.ne_of_lt (hl _ hm.2)) es ep, ⟨⟨_, Heap.get?_push_size _ rfl, rfl, rfl⟩, hm.2.at fun o e => Heap.get?_push_of_some _ e⟩⟩
/-- sorted(x), x gathered to vs -/
theorem sorted_coll {β : Type} {enc : β → PyData} {R : Value → β → Prop} {x : Value} {bs : List β} {Q : Value → Shared → Prop} (hal : PySem.W.AllAlike (bs.map enc)) (hk : PySem.W.Sortable (bs.map enc)) (hL : bs.length ≤ sizeLine)
    (hu : ∀ b, b ∈ bs → A.units + 3 + (enc b).depth < cLine)
    (coll : ∀ (Q' : List Value → Shared → Prop) (E' : Value → Shared → Prop), (∀ h1 tk vs, (∀ b o, s.heap.get? b = some o → h1.get? b = some o) → s.heap.objs.size ≤ h1.objs.size → EachIs R vs bs → EachIs (fun v b => ∃ as, Reads s.heap v (enc b) as) vs bs → Q' vs { s with heap := h1, toks := tk }) → wpAny (model P w) A.in1 (collect x) Q' E' s)
    (h : ∀ (h' : Heap) (tk p : Nat) (out : List Value) (n : Nat), (∀ b o, s.heap.get? b = some o → h'.get? b = some o) → s.heap.objs.size ≤ p → h'.get? p = some (seqObj "list" out.toArray n) → EachIs R out (bs.mergeSort (PySem.W.dataLe false enc)) → Q (.ref p) { s with heap := h', toks := tk }) :
    wpAny (model P w) A (call (.builtin "sorted") [x]) Q E s := by
  refine Calls.call_function_entry kind_sorted plain_sorted entry_sorted (args_sorted1 _) ?_
  unfold Builtin.«sorted»
  refine wpAny_bind (m := checkCount "sorted" 1 1 _) (wpAny_pure ?_)
  refine wpAny_bind (coll _ _ fun h1 tk vs k1 z1 e er => ?_)
  have hlv : vs.length ≤ sizeLine := by rw [e.length]; exact hL
  refine wpAny_bind (wpAny_newList ?_ hlv)
  have hoL : (h1.push (seqObj "list" vs.toArray 0)).get? h1.objs.size = some (seqObj "list" vs.toArray 0) := Heap.get?_push_size _ rfl
  have lt1 : ∀ b o, s.heap.get? b = some o → b < h1.objs.size := fun b o q => Heap.lt_size (k1 b o q)
  have k2 : ∀ b o, s.heap.get? b = some o → (PySem.W.sortingHeap (h1.push (seqObj "list" vs.toArray 0)) h1.objs.size vs).get? b = some o := fun b o q => PySem.W.sortingHeap_old (Nat.ne_of_lt (lt1 b o q)) (Heap.get?_push_of_some _ (k1 b o q))
  have er' : EachIs (fun v b => ∃ as, Reads (PySem.W.sortingHeap (h1.push (seqObj "list" vs.toArray 0)) h1.objs.size vs) v (enc b) as) vs bs := er.mono fun _ _ ⟨as, r⟩ => ⟨as, PyProof.Rows.Reads.keeps k2 r⟩
  refine wpAny_bind (wpAny_holding (wpAny_call_entry_kw slot_list_sort ⟨_, hoL, rfl⟩ entry_list_sort
    (PySem.W.list_sort_vals (s := { s with heap := h1.push (seqObj "list" vs.toArray 0), toks := tk }) (κ := PySem.W.dataKind (PySem.W.sortingHeap (h1.push (seqObj "list" vs.toArray 0)) h1.objs.size vs) (bs.map enc)) hoL
      (PySem.W.SortsAt.data (s := { s with heap := PySem.W.sortingHeap (h1.push (seqObj "list" vs.toArray 0)) h1.objs.size vs, toks := tk }) (PySem.W.each_map (R := fun v d => ∃ as, Reads (PySem.W.sortingHeap (h1.push (seqObj "list" vs.toArray 0)) h1.objs.size vs) v d as) enc er') hal hk (PySem.W.bound_map (A := A.in1.in1) fun b m => show A.units + 1 + 1 + (enc b).depth < cLine from by have := hu b m; omega)) hlv ⟨.none, rfl, ?_⟩) (PyProof.Rows.args_list_sort _)))
  obtain ⟨c, hc⟩ := sortedHeap_at (vs := vs) (out := (PySem.W.sortVals (PySem.W.dataKind (PySem.W.sortingHeap (h1.push (seqObj "list" vs.toArray 0)) h1.objs.size vs) (bs.map enc)) false vs vs).toArray) hoL
  refine wpAny_pure ⟨_, rfl, h _ tk h1.objs.size _ c (fun b o q => ?_) ?_ hc (PySem.W.sortVals_data false e er' hal)⟩
  · rw [sortedHeap_old (Nat.ne_of_lt (lt1 b o q)) (by rw [size_push']; exact Nat.lt_succ_of_lt (lt1 b o q))]
    exact Heap.get?_push_of_some _ (k1 b o q)
  · exact z1
/-- a list's or a tuple's items, gathered -/
theorem coll_seq {T : String} {b : Addr} {ob : Obj} {its : Array Value} {n : Nat} {Q : List Value → Shared → Prop} (hT : T = "list" ∨ T = "tuple") (h1 : s.heap.get? b = some ob) (h2 : ob.cls = .type T) (h3 : ob.data = .seq its n) (hz : its.size ≤ sizeLine)
    (hQ : ∀ h', (∀ c u, s.heap.get? c = some u → h'.get? c = some u) → s.heap.objs.size ≤ h'.objs.size → Q its.toList { s with heap := h' }) : wpAny (model P w) A (collect (.ref b)) Q E s := by
  generalize hL : ({ cls := .type "list", data := .seq ([] : List Value).toArray } : Obj) = L0
  have g0 : (s.heap.push L0).get? s.heap.objs.size = some { cls := .type "list", data := .seq #[] 0 } := by rw [← hL]; exact Heap.get?_push_size _ rfl
  have g1 := Heap.get?_update_self (Obj.mapSeq (· ++ its)) g0 rfl
  have fin : wpAny (model P w) A (load s.heap.objs.size >>= fun o => match o.data with
      | Data.seq xs _ => pure xs.toList
      | _ => unsupported "internal:collect") Q E { s with heap := (s.heap.push L0).update s.heap.objs.size (Obj.mapSeq (· ++ its)) } := by
    refine wpAny_bind (wpAny_load g1 (wpAny_pure ?_))
    have e : ((#[] : Array Value) ++ its).toList = its.toList := by simp
    show Q ((#[] : Array Value) ++ its).toList _
    rw [e]
    exact hQ _ (fun c u q => (Heap.get?_update_other _ _ (Nat.ne_of_gt (Heap.lt_size q))).trans (Heap.get?_push_of_some _ q)) (by rw [Heap.size_update, size_push']; exact Nat.le_succ _)
  unfold collect
  refine wpAny_bind (wpAny_runValue (codeAny_builtin F.entry_proto_collect ?_))
  rw [Around.under_plainId F.plain_proto_collect _]
  refine wpAny_bind (m := newList []) (wpAny_newObj_type (wpAny_pure ⟨plainId_quiet F.plain_list_iadd _, codeAny_builtin F.entry_list_iadd ?_⟩))
  rw [Around.under_plainId F.plain_list_iadd _]
  rw [hL]
  refine wpAny_mono (wpAny_extend_seq (hsz := hz) (A := A) (R := fun r s2 => r = .ok (.ret (.ref s.heap.objs.size)) ∧ s2 = { s with heap := (s.heap.push L0).update s.heap.objs.size (Obj.mapSeq (· ++ its)) })
    (s := { s with heap := s.heap.push L0 }) _ b _ 0 hT g0 (Heap.get?_push_of_some _ h1) h2 h3 ⟨rfl, rfl⟩) (fun r s2 z => ?_) fun e s2 z => absurd z.1 (by simp)
  cases r with
  | done f =>
    obtain ⟨e, rfl⟩ := z
    cases e
    exact fin
  | again c2 => exact ⟨z.1, codeAny_mono z.2 fun r s3 z3 => by obtain ⟨rfl, rfl⟩ := z3; exact fin⟩
end
end Lh
set_option Elab.async false
set_option linter.all false
set_option maxRecDepth 100000
set_option maxHeartbeats 4000000
namespace Lh
open PySem PySem.Spec PyProof.Rows L2
open PySem.W (EachIs)
/-- values and what they read as -/
abbrev VD := V × PyData
abbrev leD (x y : VD) : Bool := PySem.W.dataLe false (fun b : VD => b.2) x y
theorem each_of {bs : List VD} : ∀ {its : List Value}, Vals (bs.map (·.1)) its → EachIs (fun v b => RelV b.1 v) its bs := by
  induction bs with
  | nil =>
    intro its h
    rw [List.map_nil] at h
    cases h
    exact .nil
  | cons b r ih =>
    intro its h
    rw [List.map_cons] at h
    cases h with
    | cons h t => exact .cons h (ih t)
theorem vals_each {bs : List VD} : ∀ {its : List Value}, EachIs (fun v b => RelV b.1 v) its bs → Vals (bs.map (·.1)) its := by
  induction bs with
  | nil =>
    intro its h
    cases h
    exact .nil
  | cons b r ih =>
    intro its h
    cases h with
    | cons h t => exact .cons h (ih t)
section
variable {X : Cx} {pins : List (Addr × Obj)} {σ : L2.St} {H : Hp} {s : Shared}
theorem reads_of (I : Inv X pins σ H s) {bs : List VD} : ∀ {its : List Value}, Vals (bs.map (·.1)) its → (∀ b ∈ bs, Dp X.K H b.1 b.2) → EachIs (fun v b => ∃ as, Reads s.heap v b.2 as) its bs := by
  induction bs with
  | nil =>
    intro its h _
    rw [List.map_nil] at h
    cases h
    exact .nil
  | cons b r ih =>
    intro its h hd
    rw [List.map_cons] at h
    cases h with
    | cons h t => exact .cons (Dp.reads I b.2 b.1 _ (hd b (List.mem_cons_self ..)) h) (ih t fun c m => hd c (List.mem_cons_of_mem _ m))
/-- what sorting data asks -/
structure SrtOk (K : PySem.W.Frag) (H : Hp) (bs : List VD) : Prop where
  dp : ∀ b ∈ bs, Dp K H b.1 b.2
  dep : ∀ b ∈ bs, b.2.depth ≤ 20
  al : PySem.W.AllAlike (bs.map (·.2))
  so : PySem.W.Sortable (bs.map (·.2))
  len : bs.length ≤ 1000
def srtQ (bs : List VD) (H : Hp) (Q : VK) : Prop := ∀ p H2, H p = none → Same H H2 → H2 p = some (.lst ((bs.mergeSort leD).map (·.1))) → Q (.ref p) H2
theorem srt_fin {bs : List VD} {Q : VK} {h' : Heap} {tk p n : Nat} {out : List Value} (I : Inv X pins σ H s) (q : srtQ bs H Q) (hL : bs.length ≤ 1000) (k : ∀ b o, s.heap.get? b = some o → h'.get? b = some o) (hp : s.heap.objs.size ≤ p)
    (ho : h'.get? p = some (seqObj "list" out.toArray n)) (e : EachIs (fun v b => RelV b.1 v) out (bs.mergeSort leD)) : EP X pins σ Q (.ref p) { s with heap := h', toks := tk } := by
  have hn := I.hok.fresh hp
  refine ⟨.ref p, upd H p (.lst ((bs.mergeSort leD).map (·.1))), I.laid (t' := tk) k hp ⟨?_, out, n, vals_each e, ho⟩, rfl, q p _ hn (same_new hn) upd_same⟩
  rw [List.length_map, List.length_mergeSort]
  exact line1000 hL
def rSrtD (K : PySem.W.Frag) (sk : Src) : List V → Hp → VK → Prop := fun vs H Q => ∃ a bs, vs = [.ref a] ∧ sk.At K H a (bs.map (·.1)) ∧ SrtOk K H bs ∧ srtQ bs H Q
theorem cr_sortedD (hu : X.A.units + 64 < cLine) (sk : Src) : CallR X (.builtin "sorted") (rSrtD X.K sk) := by
  intro pins s σ H vs us Q I r h
  obtain ⟨a, bs, rfl, hs, ok, q⟩ := h
  rw [Vals.ref1 r]
  have main : ∀ its : List Value, Vals (bs.map (·.1)) its → (∃ (T : String) (ob : Obj) (n : Nat), (T = "list" ∨ T = "tuple") ∧ s.heap.get? a = some ob ∧ ob.cls = .type T ∧ ob.data = .seq its.toArray n) → its.length ≤ 1000 →
      wpAny (model X.prog X.w) X.A (call (.builtin "sorted") [.ref a]) (EP X pins σ Q) X.xe s := by
    intro its rv ⟨T, ob, n, hT, h1, h2, h3⟩ hz
    refine sorted_coll (bs := bs) (enc := fun b : VD => b.2) (R := fun v b => RelV b.1 v) ok.al ok.so (line1000 ok.len) (fun b m => ?_) (fun Q' E' hq => ?_) fun h' tk p out n k hp ho e => srt_fin I q ok.len k hp ho e
    · have := ok.dep b m
      show X.A.units + 3 + b.2.depth < cLine
      omega
    · refine coll_seq hT h1 h2 h3 (by rw [List.size_toArray]; exact line1000 hz) fun h1 k z => ?_
      rw [List.toList_toArray]
      exact hq h1 s.toks its k z (each_of rv) (reads_of I rv ok.dp)
  have hlen : ∀ its : List Value, Vals (bs.map (·.1)) its → its.length ≤ 1000 := fun its rv => by
    rw [← rv.length, List.length_map]
    exact ok.len
  cases sk with
  | l =>
    obtain ⟨its, rv, pl, hz⟩ := I.list hs
    obtain ⟨o, ho, hc, n, hd⟩ := pl.isList
    exact main its rv ⟨"list", o, n, .inl rfl, ho, hc, hd⟩ (hlen its rv)
  | t =>
    obtain ⟨its, rv, ⟨o, ho, hc, n, hd⟩, hz⟩ := I.tuple hs
    exact main its rv ⟨"tuple", o, n, .inr rfl, ho, hc, hd⟩ (hlen its rv)
end
/-! ### sorted(d.values()) -/
theorem raw_lt {h : Heap} {d : Addr} {es : Array DictEntry} {ep : Nat} (x : h.DictRaw d es ep) : d < h.objs.size := by
  obtain ⟨o, ho, _⟩ := x
  exact Heap.lt_size ho
def tSrtVals (X : Cx) (td : TE) : TE := fun σ H Q => td σ H fun x H1 => ∃ d es bs, x = .ref d ∧ Rd H1 d (dicO X.prog X.w d es) ∧ KeysOk H1 es ∧ es.map (·.2.2) = bs.map (·.1) ∧ SrtOk X.K H1 bs ∧ srtQ bs H1 Q
theorem ents_vals {P : Program} {w : World} {es : List Ent} {xs : List (NestedKey × Addr × Value)} {en : List DictEntry} (r : EntsR es xs) (e : en = xs.map (entryOfKey (nestedKind P w))) : Vals (es.map (·.2.2)) (en.map (·.val)) := by
  subst e
  induction r with
  | nil => exact .nil
  | @cons a b as bs h t ih => exact .cons h.2.2 ih
theorem ce_srtVals {X : Cx} {o : Expr} {p pos apos mpos : Pos} {td : TE} (hu : X.A.units + 64 < cLine) (hc : X.calm = true) (hg : Gl X "sorted") (hm : X.mg "sorted" = none) (hd : PE X o td) (hbase : attributeBase o "values" X.env (eval o X.env) = eval o X.env := by rfl) (hline : (apos.endLine == mpos.line) = true := by rfl)
    (hse : starEach [Expr.Call (.Attribute o "values" apos) [] [] mpos] X.env = [(false, eval (Expr.Call (.Attribute o "values" apos) [] [] mpos) X.env)] := by rfl) :
    PE X (.Call (.Name "sorted" p) [.Call (.Attribute o "values" apos) [] [] mpos] [] pos) (tSrtVals X td) := by
  refine ⟨fun pins s σ H Q I h => ?_⟩
  refine wpAny_Call_Name_kw (ld_blt I hg hm (u := .builtin "sorted") (by first | rfl | decide +kernel) ?_ (by first | decide +kernel | decide) (by first | decide +kernel | decide))
  rw [hse]
  refine PySem.callWith_builtin1 (wpAny_Call_method0_late hbase hline (thn (hd.run pins s σ H _ I h) fun v s1 ⟨x, H1, I1, r1, d, es, bs, ex, hr, hk, hv, ok, q⟩ => ?_))
  subst ex
  obtain rfl : v = Value.ref d := r1
  obtain ⟨hz, hsys, xs, rel, hx⟩ := dic_of I1 hr hk
  obtain ⟨ob, en, ep, ho, hex, hdat, hen, hown, hnd⟩ := id hx
  have raw : s1.heap.DictRaw d en ep := ⟨ob, ho, hex, hdat⟩
  refine ⟨"dict", "dict.values", F.plainAttrs_dict, F.slot_dict_values, F.type_dict_values, ⟨ob, ho, hex.1⟩, fun b e => ?_, Calls.callWith_builtin rfl (PySem.evalArgs_none ?_)⟩
  · cases e
    exact ⟨ob, ho, hex.2.1⟩
  refine call_meetsIn F.slot_dict_values ⟨ob, ho, hex.1⟩ F.entry_dict_values (F.args_dict_values_1 _) (PySem.meets_dict_values_raw d hsys) ⟨⟨en, ep, raw⟩, ?_⟩
  have k1 : ∀ b u, s1.heap.get? b = some u → (s1.heap.push { cls := .type "dict_values", data := .fields #[.ref d] }).get? b = some u := fun b u e => Heap.get?_push_of_some _ e
  have raw1 : (s1.heap.push { cls := .type "dict_values", data := .fields #[.ref d] }).DictRaw d en ep := raw.at fun o e => Heap.get?_push_of_some _ e
  have rv : Vals (bs.map (·.1)) (en.toList.map (·.val)) := by
    rw [← hv]
    exact ents_vals rel hen
  have hlen : en.size ≤ 1000 := by
    have e := rv.length
    have e2 : (en.toList.map (·.val)).length = en.size := by simp
    have e3 : (bs.map (·.1)).length = bs.length := List.length_map _
    have := ok.len
    omega
  have I2 : Inv X pins σ H1 { s1 with heap := s1.heap.push { cls := .type "dict_values", data := .fields #[.ref d] } } := I1.kept (t' := s1.toks) k1
  refine sorted_coll (s := { s1 with heap := s1.heap.push { cls := .type "dict_values", data := .fields #[.ref d] } }) (bs := bs) (enc := fun b : VD => b.2) (R := fun v b => RelV b.1 v) ok.al ok.so (line1000 ok.len) (fun b m => ?_) (fun Q' E' hq => ?_) fun h' tk p out n k hp ho e => srt_fin I2 q ok.len k hp ho e
  · have := ok.dep b m
    show X.A.units + 3 + b.2.depth < cLine
    omega
  · refine coll_src (src_vals (r := s1.heap.objs.size) fun h x => raw_lt x) (I.ok.hd hc) ⟨⟨_, Heap.get?_push_size _ rfl, rfl, rfl⟩, raw1⟩ (line1000 hlen) fun h' tk acc k z hit => ?_
    have e : acc.toList = en.toList.map (·.val) := by
      refine items_out (Pv := fun i v => ∃ hi : i < en.size, v = en[i].val) ?_ fun j v ⟨hi, e⟩ => ?_
      · rw [List.length_map, Array.length_toList]
        exact hit
      · rw [List.getElem?_map, Array.getElem?_toList, Array.getElem?_eq_getElem hi, e]
        rfl
    rw [e]
    exact hq h' tk _ k z (each_of rv) (reads_of I2 rv ok.dp)
end Lh
set_option Elab.async false
set_option linter.all false
set_option maxRecDepth 100000
set_option maxHeartbeats 4000000
/-! Calls of built-ins that the layer lacks: set of a list, of a tuple; min of data; list.extend of a tuple; enumerate of a tuple; t[::-1]. -/
namespace PySem
open Sem (wp)
open AutoSeq1
theorem lh_extend_tup (l : Addr) (items : Array Value) (n : Nat) (b : Addr) (zs : Array Value) (k : Nat) (dd : Option Addr) (sl : Array (Option Value)) (hs0 : ¬(!items.isEmpty && Builtin.List.listTooLong (items.size + zs.size)) = true) (hs1 : items.size ≤ sizeLine) (hs2 : items.size + zs.size ≤ sizeLine + 1) :
    Meets (Builtin.«list.extend» ⟨[.ref l, .ref b], []⟩) (fun _ R s => s.heap.get? l = some { cls := .type "list", dict := none, data := .seq items n, slots := #[] } ∧
      s.heap.get? b = some { cls := .type "tuple", dict := dd, data := .seq zs k, slots := sl } ∧ R (.ok (.ret Value.none)) { s with heap := s.heap.update l (Obj.mapSeq fun x => x ++ zs), toks := s.toks }) :=
  .of_wp fun prog w A R s h => by
    obtain ⟨hp, g, d, tk, os⟩ := s
    obtain ⟨hl, hb, h⟩ := h
    have f1 := idx_int
    have f2 := sub_tuple_tuple
    have f3 := sub_list_list
    have f4 := sub_tuple_list
    have f5 := sub_list_tuple
    have hz' : (items ++ zs).size ≤ sizeLine + 1 := by
      rw [Array.size_append]
      exact hs2
    wp_walk using (wpAny_updateSeq hl rfl (hz := hs1) (_hz' := hz')), wpAny_loadPart' hl, wpAny_loadPart' hb
    exact ⟨_, rfl, h⟩
theorem lh_enum_new (l : Addr) (items : Array Value) (n : Nat) (dd : Option Addr) (sl : Array (Option Value)) :
    Meets (Builtin.«enumerate.__new__» ⟨[.type "enumerate", .ref l], []⟩) (fun _ R s => s.heap.get? l = some { cls := .type "tuple", dict := dd, data := .seq items n, slots := sl } ∧
      R (.ok (.ret (.ref (s.heap.push { cls := .type "tuple_iterator", data := .fields #[.ref l, .int 0 0] }).objs.size)))
        { s with heap := (s.heap.push { cls := .type "tuple_iterator", data := .fields #[.ref l, .int 0 0] }).push { cls := .type "enumerate", data := .fields #[.none, .bool false, .ref s.heap.objs.size, rawInt 0, .none, .none] } }) :=
  .of_wp fun prog w A R s h => by
    obtain ⟨hp, g, d, tk, os⟩ := s
    obtain ⟨hl, h⟩ := h
    have hsub := sub_enumerate
    have hT : Heap.IsTuple (Shared.heap ⟨hp, g, d, tk, os⟩) l items := ⟨_, hl, rfl, n, rfl⟩
    wp_walk using wpAny_loadPart' hl
    refine wpAny_stack_any fun st => wpAny_pure ?_
    split
    · rename_i c _ _ _ _ _
      cases (c == Value.type "enumerate")
      all_goals
        wp_walk using wpAny_loadPart' hl, wpAny_pyIter_tuple hT
        exact ⟨_, rfl, h⟩
    · wp_walk using wpAny_loadPart' hl, wpAny_pyIter_tuple hT
      exact ⟨_, rfl, h⟩
end PySem
namespace Lh
open PySem PySem.Spec PyProof.Rows L2
open PySem.W (EachIs)
/-- a list that grows by a tuple's items -/
def rExtT (K : PySem.W.Frag) : V → List V → Hp → VK → Prop := fun x vs H Q => ∃ l b xs zs, x = .ref l ∧ vs = [.ref b] ∧ H l = some (.lst xs) ∧ SqT K H b zs ∧ xs.length + zs.length ≤ 1000 ∧ Q .non (upd H l (.lst (xs ++ zs)))
theorem mt_extT {X : Cx} : MtR X "list.extend" (rExtT X.K) := by
  intro pins s σ H x vs v us Q I rx rv h
  obtain ⟨l, b, xs, zs, rfl, rfl, hH, hB, hz, q⟩ := h
  cases rx
  obtain ⟨u, rfl, ru⟩ := rv.one
  cases ru
  obtain ⟨z, its, n, r, hl, e⟩ := I.lstM hH
  obtain ⟨its2, r2, ⟨⟨oc, od, dt, osl⟩, e2, c2, n2, d2⟩, z2⟩ := I.tuple hB
  simp only at c2 d2
  subst c2 d2
  have hl2 := r2.length
  have h1000 := line1000 hz
  have hsz : its.toArray.size + its2.toArray.size ≤ sizeLine := by
    rw [List.size_toArray, List.size_toArray, ← hl, ← hl2]
    exact h1000
  have hlong : ¬ (!its.toArray.isEmpty && Builtin.List.listTooLong (its.toArray.size + its2.toArray.size)) = true := by
    rw [notLongL hsz, Bool.and_false]
    exact Bool.false_ne_true
  refine call_meets F.slot_list_extend ⟨_, e, rfl⟩ F.entry_list_extend (F.args_list_extend_2 _ _) (lh_extend_tup l its.toArray n b its2.toArray n2 od osl hlong (by omega) (by omega)) ⟨e, e2, ?_⟩
  refine ⟨.non, _, I.lset (its' := its ++ its2) hH e (by simp) (r.append r2) ?_, rfl, q⟩
  rw [List.length_append]
  exact h1000
/-! ### sets of a list, of a tuple -/
/-- a list of ints, then a set of them -/
def rSetI (w : World) (K : PySem.W.Frag) (sk : Src) : List V → Hp → VK → Prop := fun xs H Q => ∃ (l : Addr) (ns : List Int), xs = [.ref l] ∧ sk.At K H l (ns.map V.int) ∧ ns.length ≤ 1000 ∧
  ∀ p c H2, c ≤ ns.length → H p = none → Same H H2 → H2 p = some (SetO w p (fun j => decide (j ∈ ns)) c) → Q (.ref p) H2
theorem cr_setI {X : Cx} (hc : X.calm = true) (sk : Src) : CallR X (.type "set") (rSetI X.w X.K sk) := by
  intro pins s σ H xs us Q I r h
  obtain ⟨l, ns, rfl, hs, hz, q⟩ := h
  rw [Vals.ref1 r]
  have hn : H s.heap.objs.size = none := I.hok.fresh (Nat.le_refl _)
  have fin : ∀ (h' : Heap) (tk c : Nat), SetR X.w h' s.heap.objs.size (fun j => decide (j ∈ ns)) c → c ≤ ns.length → (∀ b o, s.heap.get? b = some o → h'.get? b = some o) → EP X pins σ Q (.ref s.heap.objs.size) { s with heap := h', toks := tk } := fun h' tk c R hcn k =>
    ⟨.ref _, upd H s.heap.objs.size (SetO X.w s.heap.objs.size (fun j => decide (j ∈ ns)) c), I.laid (t' := tk) k (Nat.le_refl _) (setO_new R), rfl, q _ c _ hcn hn (same_new hn) upd_same⟩
  cases sk with
  | l =>
    obtain ⟨its, rv, pl, _⟩ := I.list hs
    exact set_list_ints ns (I.ok.hd hc) pl.isList (by rw [List.toList_toArray]; exact intsAre_of rv) (by unfold scanBound; omega) fin
  | t =>
    obtain ⟨its, rv, pt, _⟩ := I.tuple hs
    exact call_set_tupI ns (I.ok.hd hc) pt (by rw [List.toList_toArray]; exact intsAre_of rv) (by unfold scanBound; omega) fin
/-- a list of tuples of ints, then a set of them -/
def rSetF (X : Cx) : List V → Hp → VK → Prop := fun xs H Q => ∃ (l : Addr) (ks : List (Addr × List Int)), xs = [.ref l] ∧ SqL X.K H l (ks.map fun p => V.ref p.1) ∧ (∀ p ∈ ks, SqT X.K H p.1 (p.2.map V.int)) ∧ FewK ks ∧
  ∀ a L H2, H a = none → Same H H2 → (∀ p ∈ L, p ∈ ks) → (∀ p ∈ ks, p.2 ∈ L.map (·.2)) → H2 a = some (SetTO X.prog X.w a L) → Q (.ref a) H2
theorem cr_setF {X : Cx} (hc : X.calm = true) (hu : X.A.units + 64 < cLine) : CallR X (.type "set") (rSetF X) := by
  intro pins s σ H xs us Q I r h
  obtain ⟨l, ks, rfl, hl, hk, hf, q⟩ := h
  rw [Vals.ref1 r]
  obtain ⟨its, rv, pl, hz⟩ := I.list hl
  have hn : H s.heap.objs.size = none := I.hok.fresh (Nat.le_refl _)
  refine set_list_few (P := X.prog) (w := X.w) ks (I.ok.hd hc) pl.isList (by simpa using refs_of_vals rv) (fun p hp => I.isT (hk p hp)) hf (by omega) fun h' tk L es ep t R g k => ?_
  refine ⟨.ref s.heap.objs.size, upd H s.heap.objs.size (SetTO X.prog X.w s.heap.objs.size L), I.laid (t' := tk) k (Nat.le_refl _) (setTO_new R.t0), rfl, q _ L _ hn (same_new hn) (fun p hp => ?_) (fun p hp => ?_) upd_same⟩
  · exact List.mem_of_mem_take (g.sub p hp)
  · exact g.all p (by rw [List.take_length]; exact hp)
/-! ### min of data -/
theorem AllAlike.both {bs : List VD} (h : PySem.W.AllAlike (bs.map (·.2))) (hn : ∀ b ∈ bs, b.2 ≠ .none) : PySem.W.AlikeAll (bs.map (·.2)) := ⟨h, fun x m => by
  obtain ⟨b, hb, rfl⟩ := List.mem_map.mp m
  exact hn b hb⟩
theorem depthAll_le {n : Nat} : ∀ {ds : List PyData}, (∀ d ∈ ds, d.depth ≤ n) → PyData.depthAll ds ≤ n
  | [], _ => Nat.zero_le _
  | d :: ds, h => by
    show max d.depth (PyData.depthAll ds) ≤ n
    exact Nat.max_le.mpr ⟨h d (List.mem_cons_self ..), depthAll_le fun e m => h e (List.mem_cons_of_mem _ m)⟩
theorem minAt {bs : List VD} {its : List Value} {i : Nat} {v : Value} (rv : Vals (bs.map (·.1)) its) (e : its.toArray[i]? = some v) : ∃ b ∈ bs, RelV b.1 v := by
  have e2 : its[i]? = some v := by simpa using e
  have l := rv.length
  have hi : i < bs.length := by
    have := (List.getElem?_eq_some_iff.mp e2).1
    rw [List.length_map] at l
    omega
  obtain ⟨u, h1, h2⟩ := rv.get (i := i) (x := (bs[i]).1) (by rw [List.getElem?_map, List.getElem?_eq_getElem hi]; rfl)
  rw [e2] at h1
  cases h1
  exact ⟨bs[i], List.getElem_mem hi, h2⟩
def rMinD (K : PySem.W.Frag) : List V → Hp → VK → Prop := fun vs H Q => ∃ a bs, vs = [.ref a] ∧ SqL K H a (bs.map (·.1)) ∧ SrtOk K H bs ∧ bs ≠ [] ∧ (∀ b ∈ bs, b.2 ≠ .none) ∧ ∀ b ∈ bs, Q b.1 H
theorem cr_minD {X : Cx} (hc : X.calm = true) (hu : X.A.units + 64 < cLine) : CallR X (.builtin "min") (rMinD X.K) := by
  intro pins s σ H vs us Q I r h
  obtain ⟨a, bs, rfl, hs, ok, hne, hnn, q⟩ := h
  rw [Vals.ref1 r]
  obtain ⟨its, rv, pl, _⟩ := I.list hs
  obtain ⟨as, hr⟩ := PySem.W.each_readsAll (h := s.heap) (fun b : VD => b.2) (reads_of I rv ok.dp)
  cases bs with
  | nil => exact (hne rfl).elim
  | cons b0 bs =>
    have al := AllAlike.both ok.al hnn
    rw [List.map_cons] at al
    refine PySem.W.min_list_data (I.ok.hd hc) pl.isList (x := b0.2) (xs := bs.map (·.2)) (by simpa using hr) al ?_ fun i v h' tk bs' hv _ k => ?_
    · have := depthAll_le (n := 20) (ds := (b0 :: bs).map (·.2)) fun d m => by
        obtain ⟨b, hb, rfl⟩ := List.mem_map.mp m
        exact ok.dep b hb
      have e : PyData.depthAll (b0.2 :: bs.map (·.2)) = PyData.depthAll ((b0 :: bs).map (·.2)) := rfl
      omega
    · obtain ⟨b, m, rb⟩ := minAt rv hv
      exact ⟨b.1, H, I.kept (t' := tk) k, rb, q b m⟩
/-- min(xs, default=d) -/
def rMinDef (K : PySem.W.Frag) : List V → List V → Hp → VK → Prop := fun vs zs H Q => ∃ a bs d, vs = [.ref a] ∧ zs = [d] ∧ SqL K H a (bs.map (·.1)) ∧ SrtOk K H bs ∧ (∀ b ∈ bs, b.2 ≠ .none) ∧ (bs = [] → Q d H) ∧ ∀ b ∈ bs, Q b.1 H
theorem cr_minDef {X : Cx} (hc : X.calm = true) (hu : X.A.units + 64 < cLine) : CallRK X (.builtin "min") [Str.ofString "default"] (rMinDef X.K) := by
  intro pins s σ H vs zs us ws Q I r rz h
  obtain ⟨a, bs, d, rfl, rfl, hs, ok, hnn, q0, q⟩ := h
  rw [Vals.ref1 r]
  obtain ⟨du, rfl, rd⟩ := rz.one
  obtain ⟨its, rv, pl, _⟩ := I.list hs
  obtain ⟨as, hr⟩ := PySem.W.each_readsAll (h := s.heap) (fun b : VD => b.2) (reads_of I rv ok.dp)
  refine PySem.W.min_list_default (I.ok.hd hc) pl.isList (xs := bs.map (·.2)) (by simpa using hr) (AllAlike.both ok.al hnn) ?_ (fun e h' tk k => ?_) fun y ys i v h' tk bs' _ hv _ k => ?_
  · have := depthAll_le (n := 20) (ds := bs.map (·.2)) fun d m => by
      obtain ⟨b, hb, rfl⟩ := List.mem_map.mp m
      exact ok.dep b hb
    omega
  · exact ⟨d, H, I.kept (t' := tk) k, rd, q0 (by simpa using e)⟩
  · obtain ⟨b, m, rb⟩ := minAt rv hv
    exact ⟨b.1, H, I.kept (t' := tk) k, rb, q b m⟩
end Lh
set_option Elab.async false
set_option linter.all false
set_option maxRecDepth 100000
set_option maxHeartbeats 4000000
/-! enumerate of a tuple; t[::-1]. -/
namespace Lh
open PySem PySem.Spec PyProof.Rows L2 HT
section
variable {P : Program} {w : World} {A : Around} {E : Value → Shared → Prop} {s : Shared}
theorem enum_tup {l : Addr} {its : Array Value} {Q : Value → Shared → Prop} (hT : s.heap.IsTuple l its)
    (h : ∀ h', IsEnum h' (s.heap.objs.size + 1) s.heap.objs.size 0 .none → h'.IsTupleIter s.heap.objs.size l 0 → h'.objs.size = s.heap.objs.size + 2 →
      (∀ b o, s.heap.get? b = some o → h'.get? b = some o) → Q (.ref (s.heap.objs.size + 1)) { s with heap := h' }) : wpAny (model P w) A (call (.type "enumerate") [.ref l]) Q E s := by
  obtain ⟨⟨c, dd, dt, sl⟩, hl, hc, n, hd⟩ := hT
  simp only at hc hd
  subst hc hd
  refine callType_new F.called_enumerate (by decide) (F.typeCall_enumerate_1 _) (F.newCall_enumerate_1 _) (fun obj => F.args_object_init_2 obj _) F.entry_enumerate_new (lh_enum_new l its n dd sl) ⟨hl, ?_⟩
  generalize hI : ({ cls := .type "tuple_iterator", data := .fields #[.ref l, .int 0 0] } : Obj) = oI
  have hz : (s.heap.push oI).objs.size = s.heap.objs.size + 1 := Heap.size_push ..
  show _ ∧ _
  rw [hz]
  have g := Heap.get?_push_size (s.heap.push oI) (o := { cls := .type "enumerate", data := .fields #[.none, .bool false, .ref s.heap.objs.size, rawInt 0, .none, .none] }) rfl
  rw [hz] at g
  refine ⟨⟨_, g, rfl⟩, h _ g ⟨oI, Heap.get?_push_of_some _ (Heap.get?_push_size _ (by rw [← hI]; rfl)), by rw [← hI], by rw [← hI]; rfl⟩ (by rw [Heap.size_push, hz]) fun b o x => Heap.get?_push_of_some _ (Heap.get?_push_of_some _ x)⟩
end
/-- the tuple at a as it stands at each turn, each item in a new pair -/
def IteT (K : PySem.W.Frag) (a : Addr) : It :=
  ⟨fun i H => ∃ (xs : List V) (x : V), SqT K H a xs ∧ xs[i]? = some x, fun i H v H' => ∃ T x, v = .ref T ∧ H T = none ∧ H' = upd H T (.tup [.int (i : Nat), x]) ∧ ∀ xs, SqT K H a xs → xs[i]? = some x, fun i H => ∃ xs : List V, SqT K H a xs ∧ xs.length ≤ i⟩
theorem turn_enumT {P : Program} {w : World} {K : PySem.W.Frag} {elts : List Expr} {kk : Nat} {tpos : Pos} (a e it : Addr) :
    Turn P w K (.Tuple elts kk tpos) (IteT K a) [e, it] e (fun i h => (∃ old, IsEnum h e it ((i : Nat) : Int) old) ∧ h.IsTupleIter it a i ∧ e ≠ it ∧ e ≠ a ∧ a ≠ it) where
  mem := by simp
  obj := fun i h st b hb => by
    obtain ⟨⟨old, he⟩, ⟨o, ho, hc, hd⟩, _⟩ := st
    rcases (show b = e ∨ b = it by simpa using hb) with z | z
    · rw [z]; exact ⟨_, he, fun v q => nomatch q⟩
    · rw [z]; exact ⟨o, ho, fun v q => by rw [hd] at q; cases q⟩
  keep := fun i h h' st k => let ⟨⟨old, he⟩, hi, hne⟩ := st; ⟨⟨old, k e (by simp) _ he⟩, hi.at fun o q => k it (by simp) o q, hne⟩
  item := by
    intro X hP hw hK hc i pins s σ H E I hf st hg
    subst hP hw hK
    obtain ⟨⟨old, he⟩, hit, hne, hea, hai⟩ := st
    obtain ⟨xs, x, hq, hx⟩ := hg
    obtain ⟨its, rv, p, hz⟩ := I.tuple hq
    obtain ⟨u, hu, ru⟩ := rv.get hx
    have hel : e < s.heap.objs.size := Heap.lt_size he
    have hil : it < s.heap.objs.size := by obtain ⟨_, q, _⟩ := hit; exact Heap.lt_size q
    have hlt : i < its.toArray.size := by
      rw [List.size_toArray]
      exact (List.getElem?_eq_some_iff.mp hu).1
    refine wpAny_pyNext_enum_itemD (PySem.Draws.tuple (A := X.A.in1) (I.ok.hd hc) it a hai its.toArray) he ⟨hit, p⟩ hlt hne (by simp [hne, hea]) fun y h' tk hy ho hit' hT hsz hk => ?_
    have ey : y = u := by
      have q : its.toArray[i]? = some u := by simpa using hu
      rw [q] at hy
      exact (Option.some.inj hy).symm
    subst ey
    refine ⟨_, rfl, wpAny_letOwnedTupleGo_enum (s := { s with heap := h', toks := tk + 1 }) ho fun h'' he' sb => ?_⟩
    have hT2 : h''.get? s.heap.objs.size = some { cls := .type "tuple", data := .seq #[.int i tk, y] } := (sb.2 _ (Nat.ne_of_gt hel)).trans hT
    have new : ObjOk X.prog X.w (upd H s.heap.objs.size (.tup [.int (i : Nat), x])) h'' s.heap.objs.size (.tup [.int (i : Nat), x]) :=
      ⟨by show 2 ≤ sizeLine; decide, [.int i tk, y], .cons ⟨_, rfl⟩ (.cons ru .nil), ⟨_, hT2, rfl, _, rfl⟩⟩
    have I1 : Inv X pins σ (upd H s.heap.objs.size (.tup [.int (i : Nat), x])) { s with heap := h'', toks := tk + 1 } :=
      I.turnedNew (ch := [e, it]) (fun b ob hb q => (sb.2 b (fun z => hb (by simp [z]))).trans (hk b ob (fun z => hb (by simp [z])) (fun z => hb (by simp [z])) q)) hf (Nat.le_refl _) new
    refine ⟨.ref s.heap.objs.size, _, I1, rfl, ⟨_, x, rfl, I.hok.fresh (Nat.le_refl _), rfl, fun ys hy => by rw [I.tuple_inj hy hq]; exact hx⟩, ⟨⟨y, ?_⟩, hit'.1.at fun o q => (sb.2 it (Ne.symm hne)).trans q, hne, hea, hai⟩, fun b hb => ?_⟩
    · have e1 : ((i + 1 : Nat) : Int) = (i : Int) + 1 := by omega
      rw [e1]; exact he'
    · have hb' : b < s.heap.objs.size := by
        rcases (show b = e ∨ b = it by simpa using hb) with z | z
        · rw [z]; exact hel
        · rw [z]; exact hil
      rw [upd_ne (Nat.ne_of_lt hb')]
      exact (hf b hb).1
  done := by
    intro X hP hw hK hc i pins s σ H E I hf st hg
    subst hP hw hK
    obtain ⟨⟨old, he⟩, hit, hne, hea, hai⟩ := st
    obtain ⟨xs, hq, hx⟩ := hg
    obtain ⟨its, rv, p, hz⟩ := I.tuple hq
    obtain ⟨f0, f1, f2, f3, f4, f5⟩ := hf it (by simp)
    have hl := rv.length
    have hT : s.TypeIs (.ref e) "enumerate" := ⟨_, he, rfl⟩
    unfold pyNext
    refine wpAny_bind (wpAny_attempt (wpAny_callSpecial?_slot (name := Str.ofString "__next__") hT F.slot_enumerate_next (wpAny_call_entry F.slot_enumerate_next hT F.entry_enumerate_next ?_ (F.args_enumerate_next_1 _))))
    show wpAny _ _ (field (.ref e) 2 >>= _) _ _ _
    refine wpAny_bind (wpAny_field he rfl (x := .ref it) rfl ?_)
    refine wpAny_bind (wpAny_nextOf_tuple_end (I.ok.hd hc) hit p (by simp; omega) fun h' x he' hx' => ?_)
    obtain ⟨o, ho, hcl⟩ := hx'
    refine wpAny_bind (wpAny_isInstance (T := "StopIteration") (b := true) ⟨o, ho, hcl⟩ isSubtype_stop ?_)
    exact wpAny_pure ⟨rfl, I.turned (t' := s.toks) (fun b o hb q => he' b o hb q) f0 f1 f3 f4 f5⟩
  self := fun A i s Q E st h => let ⟨⟨_, he⟩, _⟩ := st; wpAny_pyIter_enum he h
def iEnumT (K : PySem.W.Frag) (ta : TA) : TI := fun σ H R => ta σ H fun vs H1 => ∃ a xs, vs = [.ref a] ∧ SqT K H1 a xs ∧ R (IteT K a) H1
theorem pi_enumT {X : Cx} {e : Expr} {ta : TA} {p pos tpos : Pos} {elts : List Expr} {kk : Nat} (hg : Gl X "enumerate") (hm : X.mg "enumerate" = none) (ha : PA X [e] ta) (hs : starEach [e] X.env = [(false, eval e X.env)] := by rfl) :
    PI X (.Tuple elts kk tpos) (.Call (.Name "enumerate" p) [e] [] pos) (iEnumT X.K ta) := by
  refine ⟨fun pins s σ H R I h => ?_⟩
  refine Call_ (ld_blt I hg hm boot_enumerate (PyProof.Rows.callWith_type1 (thn (ha.run pos pins s σ H _ I h) fun us s1 ⟨vs, H1, I1, r1, a, xs, ex, hq, q⟩ => ?_) hs rfl))
  subst ex
  rw [Vals.ref1 r1]
  obtain ⟨its, rv, p', hz⟩ := I1.tuple hq
  have hal : a < s1.heap.objs.size := by obtain ⟨o, q, _⟩ := p'; exact Heap.lt_size q
  refine enum_tup p' fun h' he hit hsz hk => wpAny_pyIter_enum he ?_
  have I2 : Inv X pins σ H1 { s1 with heap := h' } := I1.kept (t' := s1.toks) hk
  refine ⟨s1.heap.objs.size + 1, [s1.heap.objs.size + 1, s1.heap.objs.size], _, _, H1, rfl, I2, turn_enumT a (s1.heap.objs.size + 1) s1.heap.objs.size, ⟨⟨.none, he⟩, hit, Nat.succ_ne_self _, Nat.ne_of_gt (Nat.lt_succ_of_lt hal), Nat.ne_of_lt hal⟩, fun b hb => ?_, q⟩
  have hle : s1.heap.objs.size ≤ b := by
    rcases (show b = s1.heap.objs.size + 1 ∨ b = s1.heap.objs.size by simpa using hb) with z | z
    · rw [z]; exact Nat.le_add_right _ _
    · rw [z]; exact Nat.le_refl _
  exact I1.fpOk hle (I1.hok.fresh hle)
/-- for i, x in enumerate(t), an invariant over the turns -/
theorem for_enumT {K : PySem.W.Frag} {a : Addr} {xs : List V} {g : TG} {tb : TS} {D : Ends} {σ : L2.St} {H : Hp} (Pv : Nat → L2.St → Hp → Prop) (h0 : Pv 0 σ H) (hl : ∀ i σ H, Pv i σ H → SqT K H a xs)
    (hs : ∀ i x T σ H H1, xs[i]? = some x → Pv i σ H → H T = none → Same H H1 → H1 T = some (.tup [.int (i : Nat), x]) → g (.ref T) σ H1 fun σ2 H2 => tb { D with nx := Pv (i + 1), ct := Pv (i + 1), bk := D.nx } σ2 H2) (hd : ∀ σ H, Pv xs.length σ H → D.nx σ H) :
    ∃ W : Nat → Nat → L2.St → Hp → Prop, (∃ m, W 0 m σ H) ∧ ∀ i m σ H, W i m σ H → ((IteT K a).stop i H ∧ D.nx σ H) ∨
      ((IteT K a).go i H ∧ ∃ Nx : L2.St → Hp → Prop, (∀ σ' H', Nx σ' H' → ∃ m', m' < m ∧ W (i + 1) m' σ' H') ∧ ∀ x H', (IteT K a).yld i H x H' → g x σ H' fun σ2 H2 => tb { D with nx := Nx, ct := Nx, bk := D.nx } σ2 H2) := by
  refine ⟨fun i m σ H => m = xs.length - i ∧ i ≤ xs.length ∧ Pv i σ H, ⟨xs.length, by simp, Nat.zero_le _, h0⟩, ?_⟩
  rintro i m σ H ⟨rfl, hi, p⟩
  have q := hl i σ H p
  by_cases hlt : i < xs.length
  · refine .inr ⟨⟨xs, xs[i], q, by simp [hlt]⟩, Pv (i + 1), fun σ' H' p' => ⟨xs.length - (i + 1), by omega, rfl, hlt, p'⟩, fun v H' y => ?_⟩
    obtain ⟨T, x, e, hn, e2, y⟩ := y
    subst e e2
    exact hs i x T σ H _ (y xs q) p hn (same_new hn) upd_same
  · have e : i = xs.length := by omega
    subst e
    exact .inl ⟨⟨xs, q, Nat.le_refl _⟩, hd σ H p⟩
/-! ### t[::-1] -/
section
variable {P : Program} {w : World} {A : Around} {E : Value → Shared → Prop} {s : Shared}
theorem rev_applied {sl : Addr} {vl vu vs : Value} {n : Nat} {Q : Int × Int × Nat → Shared → Prop} (hs : s.heap.IsSliceOf sl vl vu vs) (pl : IsPart vl none) (pu : IsPart vu none) (ps : IsPart vs (some (-1)))
    (h : Q ((n : Int) - 1, -1, n) s) : wpAny (model P w) A (Builtin.Slice.sliceApplied (.ref sl) (pure (n : Int))) Q E s := by
  obtain ⟨os, hos, hcs, hds⟩ := id hs
  unfold Builtin.Slice.sliceApplied Builtin.Slice.sliceFields
  refine wpAny_bind (wpAny_bind (wpAny_field hos hds (x := vl) rfl (wpAny_bind (wpAny_field hos hds (x := vu) rfl (wpAny_bind (wpAny_field hos hds (x := vs) rfl (wpAny_pure ?_)))))))
  refine wpAny_bind (slicePart_ ps ?_)
  show wpAny _ _ (if ((-1 : Int) == 0) = true then _ else _) _ _ s
  rw [if_neg (by decide)]
  refine wpAny_bind (slicePart_ pl (wpAny_bind (slicePart_ pu (wpAny_bind (wpAny_pure ?_)))))
  have e1 : Builtin.Slice.sliceAdjust none none (-1) (n : Int) = ((n : Int) - 1, -1) := by
    unfold Builtin.Slice.sliceAdjust
    simp
  have e2 : Builtin.Slice.slicePlaces ((n : Int) - 1) (-1) (-1) = n := by
    unfold Builtin.Slice.slicePlaces
    simp
    omega
  show wpAny _ _ (match Builtin.Slice.sliceAdjust none none (-1) (n : Int) with | (lo, hi) => pure (lo, (-1 : Int), Builtin.Slice.slicePlaces lo hi (-1))) _ _ s
  rw [e1]
  show wpAny _ _ (pure ((n : Int) - 1, (-1 : Int), Builtin.Slice.slicePlaces ((n : Int) - 1) (-1) (-1))) _ _ s
  rw [e2]
  exact wpAny_pure h
theorem fm_some {α β : Type} {f : α → Option β} {g : α → β} : ∀ {l : List α}, (∀ m ∈ l, f m = some (g m)) → l.filterMap f = l.map g
  | [], _ => rfl
  | a :: l, h => by
    rw [List.filterMap_cons_some (h a (List.mem_cons_self ..)), List.map_cons, fm_some fun m z => h m (List.mem_cons_of_mem _ z)]
theorem rev_pick (xs : Array Value) : ((List.range xs.size).filterMap fun (m : Nat) => xs[((xs.size : Int) - 1 + (m : Int) * (-1)).toNat]?).toArray = xs.toList.reverse.toArray := by
  congr 1
  have e : ∀ m ∈ List.range xs.size, xs[((xs.size : Int) - 1 + (m : Int) * (-1)).toNat]? = some (xs.toList.reverse.getD m Value.none) := fun m hm => by
    have hm := List.mem_range.mp hm
    have : ((xs.size : Int) - 1 + (m : Int) * (-1)).toNat = xs.size - 1 - m := by omega
    rw [this, List.getD_eq_getElem?_getD, List.getElem?_reverse (by simpa using hm)]
    have h2 : xs.size - 1 - m < xs.size := by omega
    simp [h2]
  have e2 : (List.range xs.size).filterMap (fun (m : Nat) => xs[((xs.size : Int) - 1 + (m : Int) * (-1)).toNat]?) = (List.range xs.size).map fun m => xs.toList.reverse.getD m Value.none := by
    exact fm_some e
  rw [e2]
  apply List.ext_getElem
  · simp
  · intro i h1 h2
    simp at h1
    simp [h1]
theorem getItem_tup_rev {t sl : Addr} {its : Array Value} {vl vu vs : Value} {Q : Value → Shared → Prop} (ht : IsTup s.heap t its) (hs : s.heap.IsSliceOf sl vl vu vs) (pl : IsPart vl none) (pu : IsPart vu none) (ps : IsPart vs (some (-1)))
    (h : Q (.ref s.heap.objs.size) { s with heap := s.heap.push { cls := .type "tuple", data := .seq its.toList.reverse.toArray } }) (hsz : its.size ≤ sizeLine) : wpAny (model P w) A (getItem (.ref t) (.ref sl)) Q E s := by
  obtain ⟨os, hos, hcs, hds⟩ := id hs
  have hTs : s.TypeIs (.ref sl) "slice" := ⟨os, hos, hcs⟩
  have hok : sizeOk (.seq its.toList.reverse.toArray) := by
    show its.toList.reverse.toArray.size ≤ sizeLine
    simpa using hsz
  unfold getItem
  try with_reducible refine wpAny_holding ?_
  first | refine wpAny_bind (wpAny_pure ?_) | skip
  refine wpAny_bind (wpAny_sequenceKey ht.typeIs (by decide) ?_)
  refine wpAny_bind (wpAny_callSpecial?_slot (name := Str.ofString "__getitem__") ht.typeIs PyProof.Rows.slot_tuple_getitem (wpAny_call_entry PyProof.Rows.slot_tuple_getitem ht.typeIs entry_tuple_getitem ?_ (args_tuple_getitem _ _)))
  show wpAny _ _ (Builtin.Tuple.tupleItemsOf (.ref t) >>= _) _ _ s
  refine wpAny_bind (tupleItemsOf_ ht (wpAny_bind (wpAny_typeOf hTs ?_)))
  rw [if_pos (by decide)]
  refine wpAny_bind (rev_applied hs pl pu ps ?_)
  have hno : ¬ ((((its.size : Int) - 1 == 0) && ((-1 : Int) == 1) && (its.size == its.size)) = true) := by simp
  show wpAny _ _ (if (((its.size : Int) - 1 == 0) && ((-1 : Int) == 1) && (its.size == its.size)) = true then _ else _) _ _ s
  rw [if_neg hno, rev_pick]
  first
    | exact wpAny_bind (m := Builtin.Tuple.tupleExact _) (wpAny_newObj_type (wpAny_pure ⟨_, rfl, wpAny_pure h⟩) hok)
    | exact wpAny_bind (m := Builtin.Tuple.tupleExact _) (wpAny_newObj_type (wpAny_bind (wpAny_pure (wpAny_pure ⟨_, rfl, wpAny_pure h⟩))) hok)
    | exact wpAny_bind (wpAny_bind (m := Builtin.Tuple.tupleExact _) (wpAny_newObj_type (wpAny_pure (wpAny_pure ⟨_, rfl, wpAny_pure h⟩)) hok))
    | exact wpAny_bind (wpAny_bind (m := Builtin.Tuple.tupleExact _) (wpAny_newObj_type (wpAny_pure ⟨_, rfl, wpAny_pure h⟩) hok))
end
def tRevT (K : PySem.W.Frag) (te : TE) : TE := fun σ H Q => te σ H fun x H1 => ∃ a xs, x = .ref a ∧ SqT K H1 a xs ∧ ∀ p H2, H1 p = none → Same H1 H2 → H2 p = some (.tup xs.reverse) → Q (.ref p) H2
theorem ce_revT {X : Cx} {e : Expr} {te : TE} {k : Nat} {p1 p2 p3 pos : Pos} (he : PE X e te) : PE X (.Subscript e (.Slice none none (some (.UnaryOp .USub (.Constant (.int 1) k p1) p2)) p3) pos) (tRevT X.K te) := by
  refine ⟨fun pins s σ H Q I h => ?_⟩
  refine Subscript_ (thn (he.run pins s σ H _ I h) fun v s1 ⟨x, H1, I1, r1, a, xs, ex, hx, q⟩ => ?_)
  subst ex
  cases r1
  have hst : PO X (some (.UnaryOp .USub (.Constant (.int 1) k p1) p2)) (tPart (tUn (rU fun i => .int (-i)) (tC (.int 1)))) := po_some (pe_un un_neg pe_int)
  refine wpAny_Slice (thn (po_none.run pins s1 σ H1 (fun o H2 => o = none ∧ H2 = H1) I1 ⟨rfl, rfl⟩) fun vl s2 ⟨l, H2, I2, pl, el, e2⟩ => ?_)
  subst el e2
  refine thn (po_none.run pins s2 σ H2 (fun o H3 => o = none ∧ H3 = H2) I2 ⟨rfl, rfl⟩) fun vu s3 ⟨u, H3, I3, pu, eu, e3⟩ => ?_
  subst eu e3
  refine thn (hst.run pins s3 σ H3 (fun o H4 => o = some (-1) ∧ H4 = H3) I3 ⟨1, rfl, -1, rfl, rfl, rfl⟩) fun vs s4 ⟨o, H4, I4, ps, eo, e4⟩ => ?_
  subst eo e4
  generalize hO : ({ cls := .type "slice", data := .fields #[vl, vu, vs] } : Obj) = oS
  have I5 : Inv X pins σ H4 { s4 with heap := s4.heap.push oS } := I4.kept (t' := s4.toks) fun b ob q => Heap.get?_push_of_some _ q
  obtain ⟨its, r, ht, hz⟩ := I5.tuple hx
  have hlen := r.length
  show wpAny (model X.prog X.w) X.A (subscriptTail e (.Slice none none (some (.UnaryOp .USub (.Constant (.int 1) k p1) p2)) p3) (.ref a) (.ref s4.heap.objs.size)) (EP X pins σ Q) X.xe { s4 with heap := s4.heap.push oS }
  refine tail_any (ops := [.ref a, .ref s4.heap.objs.size]) ht.typeIs PyProof.Rows.slot_tuple_getitem.lookup ?_ (by with_unfolding_all rfl)
  refine getItem_tup_rev ht (by rw [← hO]; exact Heap.IsSliceOf.new _ vl vu vs) pl pu ps ?_ (by rw [List.size_toArray]; omega)
  have hn := I5.hok.fresh (Nat.le_refl _)
  refine ⟨.ref _, _, I5.laid (t' := s4.toks) (o := .tup xs.reverse) (fun b ob q => Heap.get?_push_of_some _ q) (Nat.le_refl _) ?_, rfl, q _ _ hn (same_new hn) upd_same⟩
  exact ⟨by rw [List.length_reverse]; exact hz, _, r.reverse, ⟨_, Heap.get?_push_size _ rfl, rfl, 0, by simp⟩⟩
end Lh
set_option Elab.async false
set_option linter.all false
set_option maxRecDepth 100000
set_option maxHeartbeats 4000000
/-! Promises of the text's defs, by positional values; the rules of calls over them; the data of plants and news. -/
namespace Lh
open PySem PySem.Spec PyProof.Rows L2
/-- a def that keeps its promise; no exception leaves it -/
structure Fn (P : Program) (w : World) (K : PySem.W.Frag) (mg : Str → Option Value) (base : Heap) (k : Nat) (f : Addr) (sp : Sp) : Prop where
  run : FnR P w K mg base CX0 k f sp
  kp : PySem.W.keepIn K (.ref f) = true
section
variable {P : Program} {w : World} {K : PySem.W.Frag} {mg : Str → Option Value} {base : Heap} {k j : Nat} {f : Addr} {sp : Sp} {x qual : Str} {params : Arguments} {body : List Stmt} {scope : Scope} {dvs : List V} {fd : FuncData} {N ps : List Str}
theorem Fn.mono (F : Fn P w K mg base j f sp) (h : j ≤ k) : Fn P w K mg base k f sp := ⟨F.run.mono h, F.kp⟩
theorem fn_def (F : FunD K x qual params body scope dvs [] f fd) (S : FnScope N ps scope) (hb : Binds K fd ps []) (len : ∀ vs H Q E, sp vs H Q E → vs.length = ps.length)
    (hbody : ∀ (cdv : Value) (A : Around) (outer : List Env) (s : Shared) (H : Hp) (vs : List V) (Q : VK) (E : XK), Room k (A.deeper (envOfC qual scope s.heap.objs.size f cdv)) → sp vs H Q E →
      ∃ t, PSs (cxOf CX0 P w K mg base N qual scope f cdv A outer s H E) body t ∧ t { nx := fun _ H' => Q .non H', rt := Q } (start N vs) H) : Fn P w K mg base (k + 1) f sp :=
  ⟨((F.ok (CX := CX0) (P := P) (w := w) (mg := mg) (base := base) S len hbody).raw hb .nil).imp fun vs H Q E h => by
    rw [List.append_nil]
    exact h, F.kp⟩
/-- all parameters are given, defaults or not -/
theorem binds_dfl (F : FunD K x qual params body scope dvs [] f fd) (hd : dvs ≠ [])
    (h : ∀ (T : Addr) (kV doc pm : Value) (an : Option Addr) (cdv ct : Value) (us its : List Value), us.length = ps.length → its.length = dvs.length →
      ∃ k, bindArgs (PySem.W.fnOf x qual params body scope (.ref T) kV doc pm an cdv ct) ⟨us, []⟩ = seqItems? (.ref T) >>= k ∧ k (some its.toArray) = pure (ps.zip (us ++ its.drop dvs.length))) : Binds K fd ps [] := by
  obtain ⟨ds, r, b⟩ := F.binds1 (ps := ps) ps.length dvs.length hd (by omega) h
  rw [List.drop_length] at r
  cases r
  exact b
end
/-! ### calls -/
def cCall (sp : Sp) (t : TA) : TE := fun σ H Q => t σ H fun vs H1 => sp vs H1 Q E0
section
variable {X : Cx} {k : Nat} {f C : Addr} {sp : Sp} {x : Str} {p pos apos : Pos} {e o : Expr} {es : List Expr} {t : TA} {te : TE}
theorem ce_call (F : Fn X.prog X.w X.K X.mg X.base k f sp) (hr : Room k X.A) (hg : Gl X x) (hm : X.mg x = some (.ref f)) (ha : PA X (e :: es) t) (hdb : (x == ("__debug__" : Str)) = false := by decide)
    (he : starEach (e :: es) X.env = (false, eval e X.env) :: starEach es X.env := by rfl) (hpl : (backTo pos (starEach es X.env)).any (·.1) = false := by rfl) : PE X (.Call (.Name x p) (e :: es) [] pos) (cCall sp t) := by
  refine ⟨fun pins s σ H Q I h => ?_⟩
  refine wpAny_Call_Name_kw (ld_glob I hg hm ?_ hdb)
  refine PySem.W.callWith_K (h₀ := X.base) I.ok.mod.kin F.kp (thn (ha.run pos pins s σ H _ I h) fun us s1 ⟨vs, H1, I1, r, q⟩ => ⟨I1.kIn, ?_⟩) he hpl
  exact wpAny_call (run_fnR F.run hr pass0 I1 r q)
/-- C(..) -/
def cMake (C : Addr) (sp : Sp) (t : TA) : TE := fun σ H Q => t σ H fun vs H1 => ∀ x dx H2, H1 x = none → H1 dx = none → dx ≠ x → Same H1 H2 → H2 dx = some (.own x) → H2 x = some (.ins C dx []) → sp (.ref x :: vs) H2 (fun v H2 => v = .non ∧ Q (.ref x) H2) E0
theorem ce_make (M : Mk X.K C f) (F : Fn X.prog X.w X.K X.mg X.base k f sp) (hr : Room (k + 1) X.A) (hg : Gl X x) (hm : X.mg x = some (.ref C)) (ha : PA X (e :: es) t) (hdb : (x == ("__debug__" : Str)) = false := by decide)
    (he : starEach (e :: es) X.env = (false, eval e X.env) :: starEach es X.env := by rfl) (hpl : (backTo pos (starEach es X.env)).any (·.1) = false := by rfl) : PE X (.Call (.Name x p) (e :: es) [] pos) (cMake C sp t) :=
  pe_imp (t := StX.tMakeR C sp E0 (mTA t)) (fun σ H Q q => ⟨_, q, fun vs H1 z x dx hx hdx ne => z x dx _ hx hdx ne (fun b u e => by
      rw [upd_ne (ne_of_none e hx), upd_ne (ne_of_none e hdx)]
      exact e) (by rw [upd_ne ne]; exact upd_same) upd_same⟩) (StX.pe_makeR M F.run hr hg hm pass0 (pa_m ha) hdb he hpl)
/-- o(..), o an instance of C -/
def cInst (C : Addr) (sp : Sp) (te : TE) (t : TA) : TE := fun σ H Q => te σ H fun y H1 => ∃ a, y = .ref a ∧ t σ H1 fun vs H2 => (∃ dx fs, H2 a = some (.ins C dx fs)) ∧ sp (.ref a :: vs) H2 Q E0
theorem ce_inst {fe : Expr} (hf : PE X fe te) (c : StX.CallO X.K C f) (F : Fn X.prog X.w X.K X.mg X.base k f sp) (hr : Room k X.A) (ha : PA X (e :: es) t)
    (ht : eval (.Call fe (e :: es) [] pos) X.env = (do callWith pos (← eval fe X.env) [] (backTo pos (starEach (e :: es) X.env)) (backToKw pos (keywordEach [] X.env))) := by rfl)
    (he : starEach (e :: es) X.env = (false, eval e X.env) :: starEach es X.env := by rfl) (hpl : (backTo pos (starEach es X.env)).any (·.1) = false := by rfl) : PE X (.Call fe (e :: es) [] pos) (cInst C sp te t) :=
  pe_imp (t := StX.tCallO X C sp E0 (mTE te) (mTA t)) (fun σ H Q q => ⟨_, q, fun y H1 ⟨a, ey, z⟩ => ⟨a, ey, _, z, fun vs H2 ⟨hi, z2⟩ => ⟨.inr hi, z2⟩⟩⟩) (StX.pe_callO (pe_m hf) c F.run hr pass0 (pa_m ha) ht he hpl)
/-- o.f, f a property of each class of Cs -/
def cProp (Cs : Addr → Prop) (sp : Sp) (te : TE) : TE := fun σ H Q => te σ H fun x H1 => ∃ a C dx fs, x = .ref a ∧ Cs C ∧ H1 a = some (.ins C dx fs) ∧ sp [.ref a] H1 Q E0
theorem get_prop {pins : List (Addr × Obj)} {σ : L2.St} {H : Hp} {s : Shared} {Q : VK} {b : Bool} {E' : Value → Shared → Prop} {a dx q g : Addr} {fs : List (Str × V)} {fn : Str} (I : Inv X pins σ H s) (ea : H a = some (.ins C dx fs)) (c : Cls X.K C) (hp : PropOf X.K C fn q g)
    (F : FnR X.prog X.w X.K X.mg X.base CX0 k g sp) (hr : Room (k + 1) X.A) (h : sp [.ref a] H Q E0) : wpAny (model X.prog X.w) X.A (getAttr (.ref a) fn b) (EP X pins σ Q) E' s := by
  obtain ⟨mA, O, _⟩ := ins_get I.hok ea
  obtain ⟨od, J, _⟩ := O.look
  obtain ⟨rest, hrec⟩ := hp.rec_
  have I1 := I.tok (s.toks + 1)
  have hcl : (PySem.W.clsIn X.K C).isSome = true := by
    obtain ⟨cd, e, _⟩ := PySem.W.any_some c.hd
    rw [e]
    rfl
  refine PySem.W.get_bind I.kIn J (PySem.W.plainGet_of (c.get fn)).1 (PySem.W.findObj_data hcl hp.at_ hp.get hp.tak) (PySem.W.plainGet_of (c.get fn)).2 (wpAny_call (PySem.W.prop_get (s := { s with toks := s.toks + 1 }) I.kIn hrec ?_))
  refine codeAny_mono (F X.A.in1 X.stack { s with toks := s.toks + 1 } H [.ref a] [.ref a] Q E0 hr.in1 I1.env0.in1 (.cons rfl .nil) h) fun r s' z => ?_
  cases r with
  | error er => exact z.elim
  | ok fl =>
    cases fl with
    | ret u =>
      obtain ⟨v, H', I3, rv, q3⟩ := I1.after z
      show wpAny _ _ (handedOut u) _ _ _
      rw [PySem.W.handedOut_of (handed_of rv)]
      exact wpAny_pure ⟨v, H', I3, rv, q3⟩
    | next => exact z.elim
    | brk => exact z.elim
    | cont => exact z.elim
theorem ce_prop {Cs : Addr → Prop} {g : Addr} {fn : Str} (he : PE X e te) (hC : ∀ C, Cs C → Cls X.K C ∧ ∃ q, PropOf X.K C fn q g) (F : FnR X.prog X.w X.K X.mg X.base CX0 k g sp) (hr : Room (k + 1) X.A) (hab : attributeBase e fn X.env (eval e X.env) = eval e X.env := by rfl) :
    PE X (.Attribute e fn pos) (cProp Cs sp te) := by
  refine ⟨fun pins s σ H Q I h => ?_⟩
  refine attr_of hab (thn (he.run pins s σ H _ I h) fun u s1 ⟨x, H1, I1, rx, a, C, dx, fs, ex, hc, ea, q⟩ => ?_)
  subst ex
  obtain rfl : u = Value.ref a := rx
  obtain ⟨c, q1, hp⟩ := hC C hc
  exact get_prop I1 ea c hp F hr q
/-- a global name that is an int, a text -/
theorem ce_gi {n : Int} (hg : Gl X x) (hm : ∃ t, X.mg x = some (.int n t)) (hd : (x == ("__debug__" : Str)) = false := by decide) : PE X (.Name x pos) (tC (.int n)) := by
  obtain ⟨t, e⟩ := hm
  exact pe_glob hg e ⟨t, rfl⟩ hd
theorem ce_gt {z : Str} (hg : Gl X x) (hm : ∃ t, X.mg x = some (.str z t)) (hd : (x == ("__debug__" : Str)) = false := by decide) : PE X (.Name x pos) (tC (.str z)) := by
  obtain ⟨t, e⟩ := hm
  exact pe_glob hg e ⟨t, rfl⟩ hd
end
theorem boot_all : bootBuiltins "all" = some (.builtin "all") := by decide +kernel
theorem boot_any : bootBuiltins "any" = some (.builtin "any") := by decide +kernel
theorem boot_min : bootBuiltins "min" = some (.builtin "min") := by decide +kernel
theorem boot_max : bootBuiltins "max" = some (.builtin "max") := by decide +kernel

/-! ### data -/
abbrev Mv := List (List (List Int))
/-- a tuple of tuples of ints -/
def RT (H : Hp) (v : V) (r : List (List Int)) : Prop := ∃ a xs, v = .ref a ∧ H a = some (.tup xs) ∧ All2 (IT H) xs r
def MT (H : Hp) (v : V) (mv : Mv) : Prop := ∃ a xs, v = .ref a ∧ H a = some (.tup xs) ∧ All2 (RT H) xs mv
theorem RT.kp {H H' : Hp} {v : V} {r : List (List Int)} (k : Kp H H') (h : RT H v r) : RT H' v r := let ⟨a, xs, e, q, t⟩ := h; ⟨a, xs, e, k a _ q True.intro, t.mono fun _ _ z => z.kp k⟩
theorem MT.kp {H H' : Hp} {v : V} {mv : Mv} (k : Kp H H') (h : MT H v mv) : MT H' v mv := let ⟨a, xs, e, q, t⟩ := h; ⟨a, xs, e, k a _ q True.intro, t.mono fun _ _ z => z.kp k⟩
/-- ascending places of n -/
def Asc (n : Nat) (l : List Int) : Prop := l.Pairwise (· < ·) ∧ ∀ x ∈ l, 0 ≤ x ∧ x < n
/-- moves of n places, m orders -/
structure Wf (mv : Mv) (m : Nat) : Prop where
  n1 : 1 ≤ mv.length
  n4 : mv.length ≤ 4
  m1 : 1 ≤ m
  m3 : m ≤ 3
  row : ∀ r ∈ mv, r.length = m
  an : ∀ r ∈ mv, ∀ l ∈ r, l ≠ [] ∧ Asc mv.length l
/-- a plant's data -/
structure Pd where
  mv : Mv
  m : Nat
  bad : List Int
  goal : List Int
structure Pd.Ok (p : Pd) : Prop where
  wf : Wf p.mv p.m
  b : Asc p.mv.length p.bad
  g : Asc p.mv.length p.goal
  d : ∀ x ∈ p.bad, x ∉ p.goal
/-- the plant stands -/
def PL (K : PySem.W.Frag) (H : Hp) (v : V) (p : Pd) : Prop := p.Ok ∧ ∃ a dx rv mk b g, v = .ref a ∧ H a = some (.ins (He.ga K "Plant") dx [("rows", rv), ("marks", .ref mk)]) ∧ MT H rv p.mv ∧ H mk = some (.tup [b, g]) ∧ IT H b p.bad ∧ IT H g p.goal
theorem PL.kp {K : PySem.W.Frag} {H H' : Hp} {v : V} {p : Pd} (k : Kp H H') (h : PL K H v p) : PL K H' v p := let ⟨o, a, dx, rv, mk, b, g, e, q, t, u, t1, t2⟩ := h; ⟨o, a, dx, rv, mk, b, g, e, k a _ q True.intro, t.kp k, k mk _ u True.intro, t1.kp k, t2.kp k⟩
/-- the news' classes -/
def NC (K : PySem.W.Frag) (C : Addr) : Prop := C = He.ga K "Late" ∨ C = He.ga K "Lost" ∨ C = He.ga K "LateLost"
/-- the news stand: a beats late, b times lost -/
def NW (K : PySem.W.Frag) (H : Hp) (v : V) (a b : Nat) : Prop := a + b ≤ 2 ∧ ∃ ad C dx t, v = .ref ad ∧ NC K C ∧ H ad = some (.ins C dx [("numbers", .ref t)]) ∧ H t = some (.tup [.int a, .int b])
theorem NW.kp {K : PySem.W.Frag} {H H' : Hp} {v : V} {a b : Nat} (k : Kp H H') (h : NW K H v a b) : NW K H' v a b := let ⟨o, ad, C, dx, t, e, c, q, u⟩ := h; ⟨o, ad, C, dx, t, e, c, k ad _ q True.intro, k t _ u True.intro⟩
section
variable {X : Cx}
theorem Tx.ncl {K : PySem.W.Frag} {mg : Str → Option Value} (T : Tx K mg) {C : Addr} (h : NC K C) : Cls K C := by
  rcases h with e | e | e <;> subst e
  · exact T.c_Late
  · exact T.c_Lost
  · exact T.c_LateLost
theorem Tx.nla {K : PySem.W.Frag} {mg : Str → Option Value} (T : Tx K mg) : ∀ C, NC K C → Cls K C ∧ ∃ q, PropOf K C "late" q (gAd K "News" "late") := by
  intro C h
  refine ⟨T.ncl h, ?_⟩
  rcases h with e | e | e <;> subst e
  · exact ⟨_, T.p_Late_late⟩
  · exact ⟨_, T.p_Lost_late⟩
  · exact ⟨_, T.p_LateLost_late⟩
theorem Tx.nlo {K : PySem.W.Frag} {mg : Str → Option Value} (T : Tx K mg) : ∀ C, NC K C → Cls K C ∧ ∃ q, PropOf K C "lost" q (gAd K "News" "lost") := by
  intro C h
  refine ⟨T.ncl h, ?_⟩
  rcases h with e | e | e <;> subst e
  · exact ⟨_, T.p_Late_lost⟩
  · exact ⟨_, T.p_Lost_lost⟩
  · exact ⟨_, T.p_LateLost_lost⟩
theorem Tx.nnu {K : PySem.W.Frag} {mg : Str → Option Value} (T : Tx K mg) {C : Addr} (h : NC K C) : NoAttr K C "numbers" := by
  rcases h with e | e | e <;> subst e
  · exact T.na_Late
  · exact T.na_Lost
  · exact T.na_LateLost
end
end Lh
set_option Elab.async false
set_option linter.all false
set_option maxRecDepth 100000
set_option maxHeartbeats 4000000
/-! [e for x in t for y in u], both tuples, turns that only make new objects. -/
namespace Lh
open PySem PySem.Spec PyProof.Rows L2
def cLc2 (K : PySem.W.Frag) (ts : TE) (i : Nat) (ts1 : TE) (j : Nat) (te : TE) (vs vs1 : List Nat) : TE := fun σ H Q => ts σ H fun v H1 => ∃ a xs, v = .ref a ∧ SqT K H1 a xs ∧ xs.length ≤ 30 ∧ i ∈ vs ∧ j ∈ vs1 ∧ ∃ R : Nat → List V → Prop, R 0 [] ∧
  (∀ k x H acc, xs[k]? = some x → R k acc → Same H1 H → ts1 ((wipe σ vs).set i (some x)) H fun w H2 => ∃ b zs, w = .ref b ∧ (∀ H', Kp H2 H' → SqT K H' b zs) ∧ zs.length ≤ 30 ∧ Same H H2 ∧ ∃ R1 : Nat → List V → Prop, R1 0 acc ∧ (∀ acc, R1 zs.length acc → R (k + 1) acc) ∧
    ∀ m z H acc, zs[m]? = some z → R1 m acc → Same H1 H → te ((wipe ((wipe σ vs).set i (some x)) vs1).set j (some z)) H fun y H4 => Same H H4 ∧ R1 (m + 1) (acc ++ [y])) ∧
  ∀ D acc H, H1 D = none → Same H1 H → H D = some (.lst acc) → acc.length ≤ 900 → R xs.length acc → Q (.ref D) H
theorem yesT {σ : L2.St} {H : Hp} {A B : Hp → Prop} (h : A H) : tYes σ H fun b H3 => if b = true then A H3 else B H3 := by
  show (if true = true then A H else B H)
  rw [if_pos rfl]
  exact h
theorem cLc2_in {K : PySem.W.Frag} {ts ts1 te : TE} {i j : Nat} {vs vs1 : List Nat} {σ : L2.St} {H : Hp} {Q : VK} (h : cLc2 K ts i (mTE ts1) j (mTE te) vs vs1 σ H Q) :
    tLc2 (iTup K (mTE ts)) (gName i) tYes (iTup K (mTE ts1)) (gName j) tYes (mTE te) vs vs1 σ H Q := by
  refine ⟨_, h, fun v H1 ⟨a, xs, ev, hs, hl, hi, hj, R, r0, rt, rd⟩ => ⟨a, ev, ⟨xs, hs⟩, fun D hD => ?_⟩⟩
  refine ⟨fun k m H => m = xs.length - k ∧ k ≤ xs.length ∧ ∃ acc, H D = some (.lst acc) ∧ acc.length ≤ 30 * k ∧ Same H1 H ∧ R k acc, ⟨xs.length, by simp, Nat.zero_le _, [], upd_same, Nat.zero_le _, same_new hD, r0⟩, ?_⟩
  rintro k m H ⟨rfl, hk, acc, hd, hacc, hS, hR⟩
  have hq : SqT K H a xs := sqT_same hS hs
  by_cases hlt : k < xs.length
  · refine .inr ⟨⟨xs, xs[k], hq, by simp [hlt]⟩, fun H => ∃ acc, H D = some (.lst acc) ∧ acc.length ≤ 30 * (k + 1) ∧ Same H1 H ∧ R (k + 1) acc, fun H' p => ⟨xs.length - (k + 1), by omega, rfl, hlt, p⟩, fun x H' y => ?_⟩
    obtain ⟨e, y⟩ := y
    subst e
    have hx := y xs hq
    refine ⟨wipe_set hi, ?_⟩
    refine yesT ?_
    refine (rt k x _ acc hx hR hS).imp fun w H2 ⟨b, zs, ew, hz, hzl, hS2, R1, r10, r1e, r1t⟩ => ⟨b, ew, ⟨zs, hz _ (Kp.refl _)⟩, ?_⟩
    have hd2 := hS2 _ _ hd
    refine ⟨fun m n H => n = zs.length - m ∧ m ≤ zs.length ∧ ∃ acc, H D = some (.lst acc) ∧ acc.length ≤ 30 * k + m ∧ Same H1 H ∧ Kp H2 H ∧ R1 m acc, ⟨zs.length, by simp, Nat.zero_le _, acc, hd2, by omega, hS.trans hS2, Kp.refl _, r10⟩, ?_⟩
    rintro m n H ⟨rfl, hm, acc, hd, hacc, hS4, hk4, hR1⟩
    have hq2 := hz H hk4
    by_cases hml : m < zs.length
    · refine .inr ⟨⟨zs, zs[m], hq2, by simp [hml]⟩, fun H => ∃ acc, H D = some (.lst acc) ∧ acc.length ≤ 30 * k + (m + 1) ∧ Same H1 H ∧ Kp H2 H ∧ R1 (m + 1) acc, fun H' p => ⟨zs.length - (m + 1), by omega, rfl, hml, p⟩, fun z H' y => ?_⟩
      obtain ⟨e, y⟩ := y
      subst e
      have hzz := y zs hq2
      refine ⟨wipe_set hj, ?_⟩
      refine yesT ?_
      refine (r1t m z _ acc hzz hR1 hS4).imp fun y H5 ⟨hS5, r5⟩ => ?_
      have hd5 := hS5 _ _ hd
      exact ⟨acc, hd5, small1000 (by omega), acc ++ [y], upd_same, by simp; omega, same_put (hS4.trans hS5) hD, (hk4.trans (Kp.of hS5)).trans (Kp.lst hd5), r5⟩
    · have e : m = zs.length := by omega
      subst e
      exact .inl ⟨⟨zs, hq2, Nat.le_refl _⟩, acc, hd, by omega, hS4, r1e acc hR1⟩
  · have e : k = xs.length := by omega
    subst e
    exact .inl ⟨⟨xs, hq, Nat.le_refl _⟩, rd D acc H hD hS hd (by omega) hR⟩
section
variable {X : Cx} {elt iter iter1 : Expr} {scope : Scope} {own : List (Str × Nat)} {x y : Str} {px py pos : Pos} {i j : Nat} {ts ts1 te : TE}
theorem ce_lc2 (hc : X.calm = true) (hN : X.N.Nodup) (hi : PE X iter ts) (ok : BlkOk X.N X.env.scope scope own) (hv : ∀ k ∈ [j], k ∈ own.map (·.2))
    (hg : ∀ (s : Shared) (H : Hp) (C : Addr) (cl : List (Str × Addr)) (fp : List Addr), PG (X.blk s H scope (compEnvC scope cl C X.env) fp) (.Name x px) (gName i))
    (hi1 : ∀ (s : Shared) (H : Hp) (C : Addr) (cl : List (Str × Addr)) (fp : List Addr), PE (X.blk s H scope (compEnvC scope cl C X.env) fp) iter1 ts1)
    (hg1 : ∀ (s : Shared) (H : Hp) (C : Addr) (cl : List (Str × Addr)) (fp : List Addr), PG (X.blk s H scope (compEnvC scope cl C X.env) fp) (.Name y py) (gName j))
    (he : ∀ (s : Shared) (H : Hp) (C : Addr) (cl : List (Str × Addr)) (fp : List Addr), PE (X.blk s H scope (compEnvC scope cl C X.env) fp) elt te) (hs : ∀ x, foldedSetIterable iter X.env x = pure x := by intro _; rfl) (hs1 : ∀ env x, foldedSetIterable iter1 env x = pure x := by intro _ _; rfl) :
    PE X (.ListComp elt [⟨.Name x px, iter, [], 0⟩, ⟨.Name y py, iter1, [], 0⟩] scope pos) (cLc2 X.K ts i (mTE ts1) j (mTE te) (own.map (·.2)) [j]) :=
  pe_imp (fun _ _ _ q => cLc2_in q) (pe_lc2 hc hN (pi_tup (pe_m hi)) ok hv hg (fun _ _ _ _ _ => pts_nil) (fun _ _ _ _ _ => pi_tup (pe_m (hi1 _ _ _ _ _))) hg1 (fun _ _ _ _ _ => pts_nil) (fun _ _ _ _ _ => pe_m (he _ _ _ _ _)) hs hs1)
end
end Lh
set_option Elab.async false
set_option linter.all false
set_option maxRecDepth 100000
set_option maxHeartbeats 4000000
/-! What tuples, lists of such read as; their equality. -/
namespace Lh
open PySem PySem.Spec PyProof.Rows L2
abbrev dI (ns : List Int) : PyData := .tuple (ns.map .int)
abbrev dS (s : Sit) : PyData := .tuple [.int s.1, dI s.2]
/-- can be compared -/
def Fl (n : Nat) (d : PyData) : Prop := d.canLay0 = true ∧ d.depth ≤ n
theorem Fl.mono {n m : Nat} {d : PyData} (h : Fl n d) (k : n ≤ m) : Fl m d := ⟨h.1, Nat.le_trans h.2 k⟩
theorem Fl.sh {n : Nat} {d : PyData} (h : Fl n d) (k : n ≤ 64) : SeqAt.shaped d = true := by
  unfold SeqAt.shaped
  rw [h.1, decide_eq_true (Nat.le_trans h.2 k)]
  rfl
theorem fl_int (i : Int) : Fl 0 (.int i) := ⟨by simp [PyData.canLay0], by simp [PyData.depth]⟩
theorem lay_all {n : Nat} : ∀ {ds : List PyData}, (∀ d ∈ ds, Fl n d) → PyData.canLayAll0 ds = true ∧ PyData.depthAll ds ≤ n
  | [], _ => ⟨by simp [PyData.canLayAll0], by simp [PyData.depthAll]⟩
  | d :: ds, h => by
    obtain ⟨a, b⟩ := lay_all fun e m => h e (List.mem_cons_of_mem _ m)
    obtain ⟨c, e⟩ := h d (List.mem_cons_self ..)
    refine ⟨by simp [PyData.canLayAll0, a, c], ?_⟩
    rw [PyData.depthAll]
    exact Nat.max_le.mpr ⟨e, b⟩
theorem fl_tup {n : Nat} {ds : List PyData} (h : ∀ d ∈ ds, Fl n d) : Fl (n + 1) (.tuple ds) := by
  obtain ⟨a, b⟩ := lay_all h
  refine ⟨by rw [PyData.canLay0]; exact a, by rw [PyData.depth]; omega⟩
theorem fl_lst {n : Nat} {ds : List PyData} (h : ∀ d ∈ ds, Fl n d) : Fl (n + 1) (.list ds) := by
  obtain ⟨a, b⟩ := lay_all h
  refine ⟨by rw [PyData.canLay0]; exact a, by rw [PyData.depth]; omega⟩
theorem fl_map {α : Type} {n : Nat} {enc : α → PyData} (h : ∀ x, Fl n (enc x)) (xs : List α) : ∀ d ∈ xs.map enc, Fl n d := fun d m => by
  obtain ⟨x, _, rfl⟩ := List.mem_map.mp m
  exact h x
theorem fl_dI (ns : List Int) : Fl 1 (dI ns) := fl_tup (fl_map fl_int ns)
theorem fl_dS (s : Sit) : Fl 2 (dS s) := fl_tup fun d m => by
  rcases List.mem_cons.mp m with e | m
  · subst e
    exact (fl_int _).mono (by decide)
  · rw [List.mem_singleton.mp m]
    exact fl_dI _
section
variable {K : PySem.W.Frag} {H : Hp}
theorem dp_ints : ∀ ns : List Int, DpAll K H (ns.map V.int) (ns.map PyData.int)
  | [] => .nil
  | n :: ns => .cons (.int n) (dp_ints ns)
theorem dp_all {α : Type} {enc : α → PyData} {R : V → α → Prop} (h : ∀ v x, R v x → Dp K H v (enc x)) : ∀ {vs : List V} {xs : List α}, All2 R vs xs → DpAll K H vs (xs.map enc)
  | [], [], _ => .nil
  | [], x :: xs, r => by
    have := r.1
    simp at this
  | v :: vs, [], r => by
    have := r.1
    simp at this
  | v :: vs, x :: xs, r => by
    obtain ⟨v', r', e, h1, h2⟩ := r.cons_inv
    cases e
    exact .cons (h v x h1) (dp_all h h2)
theorem sqT {a : Addr} {xs : List V} (h : H a = some (.tup xs)) : SqT K H a xs := SqT.of h
theorem sqL {a : Addr} {xs : List V} (h : H a = some (.lst xs)) : SqL K H a xs := SqL.of h
theorem IT.dp {v : V} {ns : List Int} (h : IT H v ns) : Dp K H v (dI ns) := by
  obtain ⟨a, rfl, e⟩ := h
  exact .tup (sqT e) (dp_ints ns)
theorem ST.dp {v : V} {s : Sit} (h : ST H v s) : Dp K H v (dS s) := by
  obtain ⟨a, r, rfl, e, t⟩ := h
  exact .tup (sqT e) (.cons (.int _) (.cons t.dp .nil))
theorem dp_lI {a : Addr} {ns : List Int} (h : H a = some (.lst (ns.map V.int))) : Dp K H (.ref a) (.list (ns.map .int)) := .lst (sqL h) (dp_ints ns)
end
/-! ### equality -/
theorem eqv_all {α : Type} {enc : α → PyData} (h : ∀ x y, PyData.eqv (enc x) (enc y) = true ↔ x = y) : ∀ xs ys : List α, PyData.eqvAll (xs.map enc) (ys.map enc) = true ↔ xs = ys
  | [], [] => by simp [PyData.eqvAll]
  | [], y :: ys => by simp [PyData.eqvAll]
  | x :: xs, [] => by simp [PyData.eqvAll]
  | x :: xs, y :: ys => by
    simp only [List.map_cons, PyData.eqvAll, Bool.and_eq_true, List.cons.injEq]
    rw [h x y, eqv_all h xs ys]
theorem eqv_int (i j : Int) : PyData.eqv (.int i) (.int j) = true ↔ i = j := by simp [PyData.eqv]
theorem eqv_dI (a b : List Int) : PyData.eqv (dI a) (dI b) = true ↔ a = b := by
  rw [PyData.eqv]
  exact eqv_all eqv_int a b
theorem eqv_dL (a b : List Int) : PyData.eqv (.list (a.map .int)) (.list (b.map .int)) = true ↔ a = b := by
  rw [PyData.eqv]
  exact eqv_all eqv_int a b
theorem eqv_dS (s t : Sit) : PyData.eqv (dS s) (dS t) = true ↔ s = t := by
  obtain ⟨a, b⟩ := s
  obtain ⟨c, d⟩ := t
  rw [PyData.eqv, PyData.eqvAll, PyData.eqvAll, PyData.eqvAll, Bool.and_true, Bool.and_eq_true, eqv_int, eqv_dI, Prod.mk.injEq]
theorem eqv_nilL (ds : List PyData) : PyData.eqv (.list ds) (.list []) = ds.isEmpty := by
  cases ds <;> simp [PyData.eqv, PyData.eqvAll]
theorem eqv_nilT (ds : List PyData) : PyData.eqv (.tuple ds) (.tuple []) = ds.isEmpty := by
  cases ds <;> simp [PyData.eqv, PyData.eqvAll]
theorem eqv_nilT2 (ds : List PyData) : PyData.eqv (.none) (.tuple ds) = false := by simp [PyData.eqv]
theorem dec_of {b : Bool} {p : Prop} [Decidable p] (h : b = true ↔ p) : b = decide p := by
  by_cases q : p
  · rw [decide_eq_true q]
    exact h.mpr q
  · rw [decide_eq_false q]
    exact Bool.eq_false_iff.mpr fun z => q (h.mp z)
/-- len(x), the written part named -/
def rLenK (K : PySem.W.Frag) : List V → Hp → VK → Prop := fun xs H Q => ∃ x n, xs = [x] ∧ LenV K x H n ∧ Q (.int n) H
theorem cl_len {X : Cx} {K : PySem.W.Frag} (hK : X.K = K := by rfl) : CallR X (.builtin "len") (rLenK K) := by
  subst hK
  exact call_len
section
variable {X : Cx} {K : PySem.W.Frag} {P : Program} {w : World}
theorem kx_ix_tup (hK : X.K = K := by rfl) : IxR X (rIxT K) := by
  subst hK
  exact ix_tup
theorem kx_ix_list (hK : X.K = K := by rfl) : IxR X (rIxL K) := by
  subst hK
  exact ix_list
theorem kx_isi (hK : X.K = K := by rfl) : CallR X (.builtin "isinstance") (rIsi K) := by
  subst hK
  exact call_isi
theorem kx_in (hK : X.K = K := by rfl) : OpR X (compareOp .In) (rIn K false) := by
  subst hK
  exact op_in_seq
theorem kx_notIn (hK : X.K = K := by rfl) : OpR X (compareOp .NotIn) (rIn K true) := by
  subst hK
  exact op_notIn_seq
theorem kx_all (hc : X.calm = true) (hK : X.K = K := by rfl) : CallR X (.builtin "all") (rAll K) := by
  subst hK
  exact cr_all hc
theorem kx_any (hc : X.calm = true) (hK : X.K = K := by rfl) : CallR X (.builtin "any") (rAny K) := by
  subst hK
  exact cr_any hc
/-- list(x), tuple(x): a new one -/
def rListK (K : PySem.W.Frag) : List V → Hp → VK → Prop := fun xs H Q => ∃ p ys, xs = [.ref p] ∧ (SqL K H p ys ∨ SqT K H p ys) ∧ ∀ l H2, H l = none → Same H H2 → H2 l = some (.lst ys) → Q (.ref l) H2
theorem kx_list (hK : X.K = K := by rfl) : CallR X (.type "list") (rListK K) := by
  subst hK
  intro pins s σ H xs us Q I r ⟨p, ys, e, h, q⟩
  exact call_list_of pins s σ H xs us Q I r ⟨p, ys, e, h, fun l hl => q l _ hl (same_new hl) upd_same⟩
def rTupK (K : PySem.W.Frag) : List V → Hp → VK → Prop := fun xs H Q => ∃ p ys, xs = [.ref p] ∧ SqL K H p ys ∧ ∀ l H2, H l = none → Same H H2 → H2 l = some (.tup ys) → Q (.ref l) H2
theorem kx_tuple (hK : X.K = K := by rfl) : CallR X (.type "tuple") (rTupK K) := by
  subst hK
  intro pins s σ H xs us Q I r ⟨p, ys, e, h, q⟩
  exact call_tuple_of pins s σ H xs us Q I r ⟨p, ys, e, .inl ⟨h, fun l hl => q l _ hl (same_new hl) upd_same⟩⟩
theorem kx_eqD (hu : X.A.units + 64 < cLine) (hK : X.K = K := by rfl) : OpR X (compareOp .Eq) (rEqD K) := by
  subst hK
  exact op_eqD hu
theorem kx_neD (hu : X.A.units + 64 < cLine) (hK : X.K = K := by rfl) : OpR X (compareOp .NotEq) (rNeD K) := by
  subst hK
  exact op_neD hu
/-- t[lo:hi]: a tuple of these items -/
def rSlK (K : PySem.W.Frag) : V → Option Int → Option Int → Hp → VK → Prop := fun x lo hi H Q => ∃ a xs, x = .ref a ∧ H a = some (.tup xs) ∧ ∀ b H2, Same H H2 → H2 b = some (.tup (cutV xs lo hi)) → Q (.ref b) H2
theorem cut_whole {xs : List V} {lo hi : Option Int} (h : HT.sIx xs.length 0 lo = 0 ∧ HT.sIx xs.length xs.length hi = xs.length) : cutV xs lo hi = xs := by
  unfold cutV
  rw [h.1, h.2]
  simp
theorem kx_sl (hK : X.K = K := by rfl) : SlR X (rSlK K) := by
  subst hK
  intro pins s σ H x v vl vu lo hi sl Q I rx hs pl pu ⟨a, xs, e, ha, q⟩
  exact sl_tupA pins s σ H x v vl vu lo hi sl Q I rx hs pl pu ⟨a, xs, e, SqT.of ha, fun z => q a H (fun _ _ e => e) (by rw [cut_whole z]; exact ha), fun _ p hp => q p _ (same_new hp) upd_same⟩
/-- l[lo:hi], a new list -/
def rSlLK (K : PySem.W.Frag) : V → Option Int → Option Int → Hp → VK → Prop := fun x lo hi H Q => ∃ a xs, x = .ref a ∧ SqL K H a xs ∧ ∀ b H2, H b = none → Same H H2 → H2 b = some (.lst (cutV xs lo hi)) → Q (.ref b) H2
theorem kx_slL (hK : X.K = K := by rfl) : SlR X (rSlLK K) := by
  subst hK
  intro pins s σ H x v vl vu lo hi sl Q I rx hs pl pu ⟨a, xs, e, ha, q⟩
  exact sl_list pins s σ H x v vl vu lo hi sl Q I rx hs pl pu ⟨a, xs, e, ha, fun p hp => q p _ hp (same_new hp) upd_same⟩
/-- t + u -/
def rCatK (K : PySem.W.Frag) : R2 := fun x y H Q => ∃ a b xs ys, x = .ref a ∧ y = .ref b ∧ H a = some (.tup xs) ∧ H b = some (.tup ys) ∧ xs.length + ys.length ≤ 1000 ∧ ∀ c H2, Same H H2 → H2 c = some (.tup (xs ++ ys)) → Q (.ref c) H2
theorem kx_cat (hK : X.K = K := by rfl) : OpR X (binaryOp .Add) (rCatK K) := by
  subst hK
  intro pins s σ H x y v u Q I rx ry ⟨a, b, xs, ys, e1, e2, ha, hb, hz, q⟩
  refine op_catA pins s σ H x y v u Q I rx ry ⟨a, b, xs, ys, e1, e2, SqT.of ha, SqT.of hb, line1000 hz, fun e => q b H (fun _ _ e => e) (by rw [e]; exact hb), fun _ e => q a H (fun _ _ e => e) (by rw [e, List.append_nil]; exact ha), fun _ _ p hp => q p _ (same_new hp) upd_same⟩
/-- the dict's rules, program and world named -/
def rInP (P : Program) (w : World) : R2 := fun x y H Q => ∃ d es k, y = .ref d ∧ Rd H d (dicO P w d es) ∧ KeysOk H es ∧ ST H x k ∧ Q (.bl (at_ es k).isSome) H
def rNotInP (P : Program) (w : World) : R2 := fun x y H Q => ∃ d es k, y = .ref d ∧ Rd H d (dicO P w d es) ∧ KeysOk H es ∧ ST H x k ∧ Q (.bl (!(at_ es k).isSome)) H
def rIxP (P : Program) (w : World) : R2 := fun x y H Q => ∃ d es k v, x = .ref d ∧ Rd H d (dicO P w d es) ∧ KeysOk H es ∧ ST H y k ∧ at_ es k = some v ∧ Q v H
theorem kx_inS (hu : X.A.units + 64 < cLine) (hP : X.prog = P := by rfl) (hw : X.w = w := by rfl) : OpR X (compareOp .In) (rInP P w) := by
  subst hP hw
  exact op_inS hu
theorem kx_notInS (hu : X.A.units + 64 < cLine) (hP : X.prog = P := by rfl) (hw : X.w = w := by rfl) : OpR X (compareOp .NotIn) (rNotInP P w) := by
  subst hP hw
  exact op_notInS hu
theorem kx_dic (hu : X.A.units + 64 < cLine) (hP : X.prog = P := by rfl) (hw : X.w = w := by rfl) : IxR X (rIxP P w) := by
  subst hP hw
  exact ix_dicS hu
theorem kx_bm {r : V → List V → Hp → VK → Prop} {o e : Expr} {es : List Expr} {to : TE} {t : TA} {name : Str} {apos cpos : Pos} {T : String} (h : PE X (.Call (.Attribute o name apos) (e :: es) [] cpos) (tBM X.K T r to t)) (hK : X.K = K := by rfl) : PE X (.Call (.Attribute o name apos) (e :: es) [] cpos) (tBM K T r to t) := by
  subst hK
  exact h
theorem kx_star {e : Expr} {es : List Expr} {te : TE} {t : TA} {p : Pos} (h : PA X (.Starred e p :: es) (StX.tStar X.K te t)) (hK : X.K = K := by rfl) : PA X (.Starred e p :: es) (StX.tStar K te t) := by
  subst hK
  exact h
theorem kx_fld {e : Expr} {ta : TE} {f : Str} {pos : Pos} (h : PE X (.Attribute e f pos) (tFld X.K ta f)) (hK : X.K = K := by rfl) : PE X (.Attribute e f pos) (tFld K ta f) := by
  subst hK
  exact h
theorem kx_lc {e : Expr} {sk : Src} {ts tt te} {i : Nat} {vs : List Nat} (h : PE X e (cLc sk X.K ts i tt te vs)) (hK : X.K = K := by rfl) : PE X e (cLc sk K ts i tt te vs) := by
  subst hK
  exact h
theorem kx_lcG {e : Expr} {sk : Src} {ts tt te} {i : Nat} {vs : List Nat} (h : PE X e (cLcG sk X.K ts i tt te vs)) (hK : X.K = K := by rfl) : PE X e (cLcG sk K ts i tt te vs) := by
  subst hK
  exact h
end
/-! ### plants: properties -/
def PCl (K : PySem.W.Frag) (C : Addr) : Prop := C = He.ga K "Plant"
section
variable {K : PySem.W.Frag} {mg : Str → Option Value} (T : Tx K mg)
include T
theorem Tx.pl_moves : ∀ C, PCl K C → Cls K C ∧ ∃ q, PropOf K C "moves" q (gAd K "Plant" "moves") := fun C h => by subst h; exact ⟨T.c_Plant, _, T.p_Plant_moves⟩
theorem Tx.pl_bad : ∀ C, PCl K C → Cls K C ∧ ∃ q, PropOf K C "bad" q (gAd K "Plant" "bad") := fun C h => by subst h; exact ⟨T.c_Plant, _, T.p_Plant_bad⟩
theorem Tx.pl_goal : ∀ C, PCl K C → Cls K C ∧ ∃ q, PropOf K C "goal" q (gAd K "Plant" "goal") := fun C h => by subst h; exact ⟨T.c_Plant, _, T.p_Plant_goal⟩
theorem Tx.pl_places : ∀ C, PCl K C → Cls K C ∧ ∃ q, PropOf K C "places" q (gAd K "Plant" "places") := fun C h => by subst h; exact ⟨T.c_Plant, _, T.p_Plant_places⟩
theorem Tx.pl_orders : ∀ C, PCl K C → Cls K C ∧ ∃ q, PropOf K C "orders" q (gAd K "Plant" "orders") := fun C h => by subst h; exact ⟨T.c_Plant, _, T.p_Plant_orders⟩
theorem Tx.co_ : StX.CallO K (He.ga K "Plant") (He.ma K (He.ga K "Plant") "__call__") := by
  have h := T.co
  obtain ⟨h1, h⟩ := Bool.and_eq_true_iff.mp h
  obtain ⟨h2, h3⟩ := Bool.and_eq_true_iff.mp h
  exact ⟨He.eqO_ok h1, h2, h3⟩
theorem Tx.oo_sub : OwnOp K (He.ga K "Plant") (He.ma K (He.ga K "Plant") "__sub__") .Sub :=
  ⟨T.sf, T.m_sub.at_, T.m_sub.fn, He.eqO_ok T.rs, ⟨_, rfl⟩, ⟨_, rfl⟩, of_decide_eq_true T.su⟩
theorem Tx.oo_add : OwnOp K (He.ga K "Plant") (He.ma K (He.ga K "Plant") "__add__") .Add :=
  ⟨T.sf, T.m_add.at_, T.m_add.fn, He.eqO_ok T.ra, ⟨_, rfl⟩, ⟨_, rfl⟩, of_decide_eq_true T.su⟩
end
end Lh
set_option Elab.async false
set_option linter.all false
set_option maxRecDepth 100000
set_option maxHeartbeats 4000000
/-! The defs of plants: checks. -/
namespace Lh
open PySem PySem.Spec PyProof.Rows L2
theorem ty_int {K : PySem.W.Frag} {H : Hp} (i : Int) : TyX K H (.int i) (.type "int") := .base (.int i)
theorem ty_tup {K : PySem.W.Frag} {H : Hp} {a : Addr} {xs : List V} (h : H a = some (.tup xs)) : TyX K H (.ref a) (.type "tuple") := .base (.tup h)
theorem kit_ii {K : PySem.W.Frag} : PySem.W.kitOne K (.type "int") (.type "int") = some true := kit_ty (by decide +kernel)
theorem kit_ib {K : PySem.W.Frag} : PySem.W.kitOne K (.type "int") (.type "bool") = some false := kit_ty (by decide +kernel)
theorem kit_tt {K : PySem.W.Frag} : PySem.W.kitOne K (.type "tuple") (.type "tuple") = some true := kit_ty (by decide +kernel)
def sp_is_between (K : PySem.W.Frag) : Sp := fun vs H Q _ => ∃ x0 x1 x2, vs = [x0, x1, x2] ∧ ∃ a lo hi : Int, x0 = .int a ∧ x1 = .int lo ∧ x2 = .int hi ∧ Q (.bl (decide (lo ≤ a ∧ a ≤ hi))) H
theorem ok_is_between {P : Program} {w : World} {K : PySem.W.Frag} {mg : Str → Option Value} {base : Heap} (T : Tx K mg) : Fn P w K mg base 1 (He.ga K "is_between") (sp_is_between K) := by
  obtain ⟨fd, F⟩ := T.d_is_between
  have hb : Binds K fd ["thing", "low", "high"] [] := F.bindsN fun _ _ _ _ _ _ us hl => match us, hl with | [_, _, _], _ => rfl
  refine fn_def F sc_is_between hb (fun vs H Q E h => by obtain ⟨_, _, _, rfl, _⟩ := h; rfl) fun cdv A outer s H vs Q E hr h => ⟨_, PSs.nox (pss_one (ps_ret (pe_and (pe_callB (kx_isi (K := K)) rfl T.b_isinstance boot_isinstance (pa_cons (pv 0) (pa_cons (pe_bltn (v := .ty "int") (by rfl) T.b_int boot_int rfl) pa_nil))) (pe_and (pe_not (pe_callB (kx_isi (K := K)) rfl T.b_isinstance boot_isinstance (pa_cons (pv 0) (pa_cons (pe_bltn (v := .ty "bool") (by rfl) T.b_bool boot_bool rfl) pa_nil)))) (pe_one (pe_chain op_le op_le (pv 1) (pv 0) (pv 2))))))), ?_⟩
  obtain ⟨x0, x1, x2, rfl, h⟩ := h
  obtain ⟨a, lo, hi, rfl, rfl, rfl, q⟩ := h
  refine ⟨_, rfl, _, _, _, _, true, rfl, .ty "int", ty_int a, kit_ii, true, rfl, ?_⟩
  refine iteT ⟨_, rfl, _, _, _, _, false, rfl, .ty "bool", ty_int a, kit_ib, false, rfl, true, rfl, ?_⟩
  refine iteT ⟨_, rfl, _, rfl, _, _, rfl, rfl, _, rfl, ?_⟩
  by_cases h1 : lo ≤ a
  · rw [decide_eq_true h1]
    refine iteT ⟨_, rfl, _, _, rfl, rfl, ?_⟩
    have e : decide (a ≤ hi) = decide (lo ≤ a ∧ a ≤ hi) := by simp [h1]
    show Q (.bl (decide (a ≤ hi))) H
    rw [e]
    exact q
  · rw [decide_eq_false h1]
    refine iteF ?_
    have e : decide (lo ≤ a ∧ a ≤ hi) = false := by simp [h1]
    rw [e] at q
    exact q
theorem all_rep (k : Nat) : (List.replicate k true).all id = true := by
  induction k with
  | zero => rfl
  | succ k ih => rw [List.replicate_succ, List.all_cons, ih]; rfl
theorem rep_succ (k : Nat) : (List.replicate k true).map V.bl ++ [V.bl true] = (List.replicate (k + 1) true).map V.bl := by
  rw [List.replicate_succ', List.map_append]
  rfl
theorem ints_at {ns : List Int} {k : Nat} {x : V} (h : (ns.map V.int)[k]? = some x) : ∃ n, ns[k]? = some n ∧ x = .int n := by
  rw [List.getElem?_map] at h
  obtain ⟨n, h1, h2⟩ := Option.map_eq_some_iff.mp h
  exact ⟨n, h1, h2.symm⟩
def sp_are_ascending (K : PySem.W.Frag) : Sp := fun vs H Q _ => ∃ x0 x1, vs = [x0, x1] ∧ ∃ (ns : List Int) (n : Nat), IT H x0 ns ∧ x1 = .int n ∧ Asc n ns ∧ ns.length ≤ 60 ∧ ∀ H', Same H H' → Q (.bl true) H'
theorem ok_are_ascending {P : Program} {w : World} {K : PySem.W.Frag} {mg : Str → Option Value} {base : Heap} (T : Tx K mg) : Fn P w K mg base 2 (He.ga K "are_ascending") (sp_are_ascending K) := by
  obtain ⟨fd, F⟩ := T.d_are_ascending
  have hb : Binds K fd ["thing", "many"] [] := F.bindsN fun _ _ _ _ _ _ us hl => match us, hl with | [_, _], _ => rfl
  refine fn_def F sc_are_ascending hb (fun vs H Q E h => by obtain ⟨_, _, rfl, _⟩ := h; rfl) fun cdv A outer s H vs Q E hr h => ⟨_, PSs.nox (pss_cons (ps_if (PW.pt (pw_or (pt_not (pt_val (pe_callB (kx_isi (K := K)) rfl T.b_isinstance boot_isinstance (pa_cons (pv 0) (pa_cons (pe_bltn (v := .ty "tuple") (by rfl) T.b_tuple boot_tuple rfl) pa_nil))))) (pw_or1 (pt_not (pt_val (pe_callB (kx_all (K := K) rfl) rfl T.b_all boot_all (pa_cons (kx_lc (K := K) (ce_lc .t rfl sc_are_ascending.nd (pv 0) (blkOk_by (own := [("one", 2)]) (N := n_are_ascending) (sc := defScope s_are_ascending) (by decide +kernel)) (fun _ _ _ _ _ => pg_name (i := 2) sc_are_ascending.nd rfl (Or.inl rfl)) (fun _ _ _ _ _ => pts_nil) (fun _ _ _ _ _ => (ce_call (ok_is_between (P := P) (w := w) T) (hr.mono (by decide)) rfl T.g_is_between (pa_cons (pv 2) (pa_cons pe_int (pa_cons (pe_op op_sub (pv 1) pe_int) pa_nil))))))) pa_nil))))))) (pss_one (ps_ret pe_bl)) pss_nil)
      (pss_one (ps_ret (pe_cmpR (kx_eqD (K := K) hr.units) (pe_callTy (kx_list (K := K)) rfl T.b_list boot_list (pa_cons (pv 0) pa_nil)) (pe_callB (cr_sortedSet rfl) rfl T.b_sorted boot_sorted (pa_cons (pe_callTy (cr_setI rfl .t) rfl T.b_set boot_set (pa_cons (pv 0) pa_nil)) pa_nil)) (nomark _))))), ?_⟩
  obtain ⟨x0, x1, rfl, h⟩ := h
  obtain ⟨ns, n, ⟨a, rfl, ha⟩, rfl, asc, hl, q⟩ := h
  refine ⟨_, rfl, _, _, _, _, true, rfl, .ty "tuple", ty_tup ha, kit_tt, true, rfl, iteF ?_⟩
  refine ⟨_, rfl, a, _, rfl, sqT ha, by simp; omega, by simp, fun k acc _ => acc = (List.replicate k true).map V.bl, rfl, fun _ _ _ _ _ z => z, fun k x H2 acc hx hR hS => mTT.mk (yesT ?_), fun D acc H2 hD hS hd hR => ?_⟩
  · obtain ⟨i, hi, rfl⟩ := ints_at hx
    obtain ⟨h0, h1⟩ := asc.2 i (List.mem_of_getElem? hi)
    refine mTE.mk ⟨_, rfl, _, rfl, _, _, rfl, rfl, _, _, _, rfl, i, 0, n - 1, rfl, rfl, rfl, ?_⟩
    rw [decide_eq_true (show (0 : Int) ≤ i ∧ i ≤ n - 1 by omega), hR]
    exact ⟨fun _ _ e => e, rep_succ k⟩
  · subst hR
    refine ⟨D, _, rfl, sqL hd, true, by rw [all_rep], iteF ?_⟩
    have ha2 := hS _ _ ha
    refine ⟨_, rfl, a, _, rfl, .inr (sqT ha2), fun l H3 hl' hS3 hl3 => ?_⟩
    refine ⟨_, rfl, a, ns, rfl, sqT (hS3 _ _ ha2), by omega, fun p c H4 hc hp hS4 hset => ?_⟩
    refine ⟨p, _, c, rfl, hset, by omega, fun ms p5 hpw hmem hlen hn5 => ?_⟩
    have e : ms = ns := by
      refine List.Perm.eq_of_pairwise (le := (· < ·)) (fun a b _ _ h1 h2 => absurd h1 (by omega)) hpw asc.1 ?_
      refine (List.perm_ext_iff_of_nodup (hpw.imp fun h => by omega) (asc.1.imp fun h => by omega)).mpr fun x => ?_
      rw [hmem x]
      simp
    subst e
    have hS5 : Same H4 (upd H4 p5 (.lst (ms.map V.int))) := same_new hn5
    refine ⟨.list (ms.map .int), .list (ms.map .int), dp_lI (hS5 _ _ (hS4 _ _ hl3)), dp_lI upd_same, (fl_lst (fl_map fl_int ms)).sh (by decide), (fl_lst (fl_map fl_int ms)).sh (by decide), ?_⟩
    rw [(eqv_dL ms ms).mpr rfl]
    exact q _ (hS.trans (hS3.trans (hS4.trans hS5)))
/-! ### getters -/
theorem PL.ge {K : PySem.W.Frag} {H : Hp} {v : V} {p : Pd} (h : PL K H v p) : p.Ok := h.1
def sp_Plant_moves (K : PySem.W.Frag) : Sp := fun vs H Q _ => ∃ x0, vs = [x0] ∧ ∃ p, PL K H x0 p ∧ ∀ v, MT H v p.mv → Q v H
theorem ok_Plant_moves {P : Program} {w : World} {K : PySem.W.Frag} {mg : Str → Option Value} {base : Heap} (T : Tx K mg) : Fn P w K mg base 1 (gAd K "Plant" "moves") (sp_Plant_moves K) := by
  obtain ⟨fd, F⟩ := T.d_Plant_moves
  have hb : Binds K fd ["self"] [] := F.bindsN fun _ _ _ _ _ _ us hl => match us, hl with | [_], _ => rfl
  refine fn_def F sc_Plant_moves hb (fun vs H Q E h => by obtain ⟨_, rfl, _⟩ := h; rfl) fun cdv A outer s H vs Q E hr h => ⟨_, PSs.nox (pss_one (ps_ret (kx_fld (K := K) (pe_fld (pv 0) rfl)))), ?_⟩
  obtain ⟨x0, rfl, h⟩ := h
  obtain ⟨p, ⟨ok, a, dx, rv, mk, b, g, rfl, ha, hm, hk, hb2, hg⟩, q⟩ := h
  exact ⟨_, rfl, _, _, _, _, _, rfl, ha, T.c_Plant, T.na_rows, rfl, q _ hm⟩
def sp_Plant_bad (K : PySem.W.Frag) : Sp := fun vs H Q _ => ∃ x0, vs = [x0] ∧ ∃ p, PL K H x0 p ∧ ∀ v, IT H v p.bad → Q v H
theorem ok_Plant_bad {P : Program} {w : World} {K : PySem.W.Frag} {mg : Str → Option Value} {base : Heap} (T : Tx K mg) : Fn P w K mg base 1 (gAd K "Plant" "bad") (sp_Plant_bad K) := by
  obtain ⟨fd, F⟩ := T.d_Plant_bad
  have hb : Binds K fd ["self"] [] := F.bindsN fun _ _ _ _ _ _ us hl => match us, hl with | [_], _ => rfl
  refine fn_def F sc_Plant_bad hb (fun vs H Q E h => by obtain ⟨_, rfl, _⟩ := h; rfl) fun cdv A outer s H vs Q E hr h => ⟨_, PSs.nox (pss_one (ps_ret (pe_ix (kx_ix_tup (K := K)) (kx_fld (K := K) (pe_fld (pv 0) rfl)) pe_int (fun _ _ => rfl)))), ?_⟩
  obtain ⟨x0, rfl, h⟩ := h
  obtain ⟨p, ⟨ok, a, dx, rv, mk, b, g, rfl, ha, hm, hk, hb2, hg⟩, q⟩ := h
  exact ⟨_, rfl, _, _, _, _, _, rfl, ha, T.c_Plant, T.na_marks, rfl, mk, _, 0, _, rfl, rfl, sqT hk, rfl, q _ hb2⟩
def sp_Plant_goal (K : PySem.W.Frag) : Sp := fun vs H Q _ => ∃ x0, vs = [x0] ∧ ∃ p, PL K H x0 p ∧ ∀ v, IT H v p.goal → Q v H
theorem ok_Plant_goal {P : Program} {w : World} {K : PySem.W.Frag} {mg : Str → Option Value} {base : Heap} (T : Tx K mg) : Fn P w K mg base 1 (gAd K "Plant" "goal") (sp_Plant_goal K) := by
  obtain ⟨fd, F⟩ := T.d_Plant_goal
  have hb : Binds K fd ["self"] [] := F.bindsN fun _ _ _ _ _ _ us hl => match us, hl with | [_], _ => rfl
  refine fn_def F sc_Plant_goal hb (fun vs H Q E h => by obtain ⟨_, rfl, _⟩ := h; rfl) fun cdv A outer s H vs Q E hr h => ⟨_, PSs.nox (pss_one (ps_ret (pe_ix (kx_ix_tup (K := K)) (kx_fld (K := K) (pe_fld (pv 0) rfl)) pe_int (fun _ _ => rfl)))), ?_⟩
  obtain ⟨x0, rfl, h⟩ := h
  obtain ⟨p, ⟨ok, a, dx, rv, mk, b, g, rfl, ha, hm, hk, hb2, hg⟩, q⟩ := h
  exact ⟨_, rfl, _, _, _, _, _, rfl, ha, T.c_Plant, T.na_marks, rfl, mk, _, 1, _, rfl, rfl, sqT hk, rfl, q _ hg⟩
def sp_Plant_places (K : PySem.W.Frag) : Sp := fun vs H Q _ => ∃ x0, vs = [x0] ∧ ∃ p, PL K H x0 p ∧ Q (.int p.mv.length) H
theorem ok_Plant_places {P : Program} {w : World} {K : PySem.W.Frag} {mg : Str → Option Value} {base : Heap} (T : Tx K mg) : Fn P w K mg base 1 (gAd K "Plant" "places") (sp_Plant_places K) := by
  obtain ⟨fd, F⟩ := T.d_Plant_places
  have hb : Binds K fd ["self"] [] := F.bindsN fun _ _ _ _ _ _ us hl => match us, hl with | [_], _ => rfl
  refine fn_def F sc_Plant_places hb (fun vs H Q E h => by obtain ⟨_, rfl, _⟩ := h; rfl) fun cdv A outer s H vs Q E hr h => ⟨_, PSs.nox (pss_one (ps_ret (pe_callB (cl_len (K := K)) rfl T.b_len boot_len (pa_cons (kx_fld (K := K) (pe_fld (pv 0) rfl)) pa_nil)))), ?_⟩
  obtain ⟨x0, rfl, h⟩ := h
  obtain ⟨p, ⟨ok, a, dx, rv, mk, b, g, rfl, ha, ⟨a2, xs, rfl, h2, hal⟩, hk, hb2, hg⟩, q⟩ := h
  refine ⟨_, rfl, _, _, _, _, _, rfl, ha, T.c_Plant, T.na_rows, rfl, _, xs.length, rfl, .inr ⟨_, sqT h2, rfl⟩, ?_⟩
  rw [hal.1]
  exact q
def sp_Plant_len (K : PySem.W.Frag) : Sp := sp_Plant_places K
theorem ok_Plant_len {P : Program} {w : World} {K : PySem.W.Frag} {mg : Str → Option Value} {base : Heap} (T : Tx K mg) : Fn P w K mg base 1 (He.ma K (He.ga K "Plant") "__len__") (sp_Plant_len K) := by
  obtain ⟨fd, F⟩ := T.d_Plant_len
  have hb : Binds K fd ["self"] [] := F.bindsN fun _ _ _ _ _ _ us hl => match us, hl with | [_], _ => rfl
  refine fn_def F sc_Plant_len hb (fun vs H Q E h => by obtain ⟨_, rfl, _⟩ := h; rfl) fun cdv A outer s H vs Q E hr h => ⟨_, PSs.nox (pss_one (ps_ret (pe_callB (cl_len (K := K)) rfl T.b_len boot_len (pa_cons (kx_fld (K := K) (pe_fld (pv 0) rfl)) pa_nil)))), ?_⟩
  obtain ⟨x0, rfl, h⟩ := h
  obtain ⟨p, ⟨ok, a, dx, rv, mk, b, g, rfl, ha, ⟨a2, xs, rfl, h2, hal⟩, hk, hb2, hg⟩, q⟩ := h
  refine ⟨_, rfl, _, _, _, _, _, rfl, ha, T.c_Plant, T.na_rows, rfl, _, xs.length, rfl, .inr ⟨_, sqT h2, rfl⟩, ?_⟩
  rw [hal.1]
  exact q
def sp_Plant_orders (K : PySem.W.Frag) : Sp := fun vs H Q _ => ∃ x0, vs = [x0] ∧ ∃ p, PL K H x0 p ∧ Q (.int p.m) H
theorem ok_Plant_orders {P : Program} {w : World} {K : PySem.W.Frag} {mg : Str → Option Value} {base : Heap} (T : Tx K mg) : Fn P w K mg base 1 (gAd K "Plant" "orders") (sp_Plant_orders K) := by
  obtain ⟨fd, F⟩ := T.d_Plant_orders
  have hb : Binds K fd ["self"] [] := F.bindsN fun _ _ _ _ _ _ us hl => match us, hl with | [_], _ => rfl
  refine fn_def F sc_Plant_orders hb (fun vs H Q E h => by obtain ⟨_, rfl, _⟩ := h; rfl) fun cdv A outer s H vs Q E hr h => ⟨_, PSs.nox (pss_one (ps_ret (pe_callB (cl_len (K := K)) rfl T.b_len boot_len (pa_cons (pe_ix (kx_ix_tup (K := K)) (kx_fld (K := K) (pe_fld (pv 0) rfl)) pe_int (fun _ _ => rfl)) pa_nil)))), ?_⟩
  obtain ⟨x0, rfl, h⟩ := h
  obtain ⟨p, ⟨ok, a, dx, rv, mk, b, g, rfl, ha, ⟨a2, xs, rfl, h2, hal⟩, hk, hb2, hg⟩, q⟩ := h
  have n1 := ok.wf.n1
  obtain ⟨r, hr0, c, cs, rfl, hc, hcal⟩ := hal.get' (i := 0) (List.getElem?_eq_getElem (by omega))
  refine ⟨_, rfl, _, _, _, _, _, rfl, ha, T.c_Plant, T.na_rows, rfl, a2, _, 0, _, rfl, rfl, sqT h2, atI_nat (j := 0) hr0, _, cs.length, rfl, .inr ⟨_, sqT hc, rfl⟩, ?_⟩
  rw [hcal.1, ok.wf.row _ (List.getElem_mem _)]
  exact q
end Lh
set_option Elab.async false
set_option linter.all false
set_option maxRecDepth 100000
set_option maxHeartbeats 4000000
/-! The defs of plants: places, orders, triples, moves. -/
namespace Lh
open PySem PySem.Spec PyProof.Rows L2
theorem PL.at_ {K : PySem.W.Frag} {H : Hp} {v : V} {p : Pd} (h : PL K H v p) : ∃ a dx fs, v = .ref a ∧ H a = some (.ins (He.ga K "Plant") dx fs) := let ⟨_, a, dx, _, _, _, _, e, q, _⟩ := h; ⟨a, dx, _, e, q⟩
theorem at_int {α : Type} {xs : List α} {i : Int} {x : α} (h0 : 0 ≤ i) (h : xs[i.toNat]? = some x) : atI xs i = some x := by
  have e : ((i.toNat : Nat) : Int) = i := Int.toNat_of_nonneg h0
  rw [← e]
  exact atI_nat h
theorem MT.row {H : Hp} {v : V} {mv : Mv} {i : Int} (h : MT H v mv) (h0 : 0 ≤ i) (h1 : i < mv.length) : ∃ a xs x r, v = .ref a ∧ H a = some (.tup xs) ∧ atI xs i = some x ∧ mv[i.toNat]? = some r ∧ RT H x r := by
  obtain ⟨a, xs, rfl, ha, al⟩ := h
  have hi : i.toNat < mv.length := by omega
  obtain ⟨x, hx, r⟩ := al.get' (i := i.toNat) (List.getElem?_eq_getElem hi)
  exact ⟨a, xs, x, _, rfl, ha, at_int h0 hx, List.getElem?_eq_getElem hi, r⟩
theorem RT.cell {H : Hp} {v : V} {r : List (List Int)} {i : Int} (h : RT H v r) (h0 : 0 ≤ i) (h1 : i < r.length) : ∃ a xs x l, v = .ref a ∧ H a = some (.tup xs) ∧ atI xs i = some x ∧ r[i.toNat]? = some l ∧ IT H x l := by
  obtain ⟨a, xs, rfl, ha, al⟩ := h
  have hi : i.toNat < r.length := by omega
  obtain ⟨x, hx, q⟩ := al.get' (i := i.toNat) (List.getElem?_eq_getElem hi)
  exact ⟨a, xs, x, _, rfl, ha, at_int h0 hx, List.getElem?_eq_getElem hi, q⟩
/-- a triple within the plant -/
abbrev Tri := Int × Int × Int
def TR (H : Hp) (v : V) (t : Tri) : Prop := IT H v [t.1, t.2.1, t.2.2]
theorem TR.kp {H H' : Hp} {v : V} {t : Tri} (k : Kp H H') (h : TR H v t) : TR H' v t := IT.kp k h
structure InR (p : Pd) (t : Tri) : Prop where
  a0 : 0 ≤ t.1
  a1 : t.1 < p.mv.length
  b0 : 0 ≤ t.2.1
  b1 : t.2.1 < p.m
  c0 : 0 ≤ t.2.2
  c1 : t.2.2 < p.mv.length
theorem Wf.len {mv : Mv} {m : Nat} (h : Wf mv m) {i : Nat} {r : List (List Int)} (e : mv[i]? = some r) : r.length = m := h.row r (List.mem_of_getElem? e)
theorem ans_of {mv : Mv} {i o : Int} {r : List (List Int)} {l : List Int} (h1 : mv[i.toNat]? = some r) (h2 : r[o.toNat]? = some l) : LH.ans mv i o = l := by
  unfold LH.ans
  rw [h1, Option.getD_some, h2, Option.getD_some]
def sp_is_place (K : PySem.W.Frag) : Sp := fun vs H Q _ => ∃ x0 x1, vs = [x0, x1] ∧ ∃ p i, PL K H x0 p ∧ x1 = .int i ∧ Q (.bl (decide (0 ≤ i ∧ i < p.mv.length))) H
theorem ok_is_place {P : Program} {w : World} {K : PySem.W.Frag} {mg : Str → Option Value} {base : Heap} (T : Tx K mg) : Fn P w K mg base 3 (He.ga K "is_place") (sp_is_place K) := by
  obtain ⟨fd, F⟩ := T.d_is_place
  have hb : Binds K fd ["plant", "thing"] [] := F.bindsN fun _ _ _ _ _ _ us hl => match us, hl with | [_, _], _ => rfl
  refine fn_def F sc_is_place hb (fun vs H Q E h => by obtain ⟨_, _, rfl, _⟩ := h; rfl) fun cdv A outer s H vs Q E hr h => ⟨_, PSs.nox (pss_one (ps_ret (ce_call (ok_is_between (P := P) (w := w) T) (hr.mono (by decide)) rfl T.g_is_between (pa_cons (pv 1) (pa_cons pe_int (pa_cons (pe_op op_sub (pe_callB (call_ownLen T.m_len (ok_Plant_len T).run (hr.mono (by decide))) rfl T.b_len boot_len (pa_cons (pv 0) pa_nil)) pe_int) pa_nil)))))), ?_⟩
  obtain ⟨x0, x1, rfl, h⟩ := h
  obtain ⟨p, i, hp, rfl, q⟩ := h
  obtain ⟨a, dx, fs, rfl, ha⟩ := hp.at_
  have n4 := hp.ge.wf.n4
  refine ⟨_, rfl, _, rfl, a, dx, fs, rfl, ha, _, rfl, p, hp, p.mv.length, rfl, by omega, _, _, rfl, rfl, _, _, _, rfl, i, 0, (p.mv.length : Int) - 1, rfl, rfl, rfl, ?_⟩
  have e : decide ((0 : Int) ≤ i ∧ i ≤ (p.mv.length : Int) - 1) = decide (0 ≤ i ∧ i < p.mv.length) := decide_eq_decide.mpr (by omega)
  rw [e]
  exact q
def sp_is_order (K : PySem.W.Frag) : Sp := fun vs H Q _ => ∃ x0 x1, vs = [x0, x1] ∧ ∃ p i, PL K H x0 p ∧ x1 = .int i ∧ Q (.bl (decide (0 ≤ i ∧ i < p.m))) H
theorem ok_is_order {P : Program} {w : World} {K : PySem.W.Frag} {mg : Str → Option Value} {base : Heap} (T : Tx K mg) : Fn P w K mg base 3 (He.ga K "is_order") (sp_is_order K) := by
  obtain ⟨fd, F⟩ := T.d_is_order
  have hb : Binds K fd ["plant", "thing"] [] := F.bindsN fun _ _ _ _ _ _ us hl => match us, hl with | [_, _], _ => rfl
  refine fn_def F sc_is_order hb (fun vs H Q E h => by obtain ⟨_, _, rfl, _⟩ := h; rfl) fun cdv A outer s H vs Q E hr h => ⟨_, PSs.nox (pss_one (ps_ret (ce_call (ok_is_between (P := P) (w := w) T) (hr.mono (by decide)) rfl T.g_is_between (pa_cons (pv 1) (pa_cons pe_int (pa_cons (pe_op op_sub (ce_prop (pv 0) T.pl_orders (ok_Plant_orders T).run (hr.mono (by decide))) pe_int) pa_nil)))))), ?_⟩
  obtain ⟨x0, x1, rfl, h⟩ := h
  obtain ⟨p, i, hp, rfl, q⟩ := h
  obtain ⟨a, dx, fs, rfl, ha⟩ := hp.at_
  refine ⟨_, rfl, _, rfl, a, _, dx, fs, rfl, rfl, ha, _, rfl, p, hp, _, _, rfl, rfl, _, _, _, rfl, i, 0, (p.m : Int) - 1, rfl, rfl, rfl, ?_⟩
  have e : decide ((0 : Int) ≤ i ∧ i ≤ (p.m : Int) - 1) = decide (0 ≤ i ∧ i < p.m) := decide_eq_decide.mpr (by omega)
  rw [e]
  exact q
theorem ty_plant {K : PySem.W.Frag} {mg : Str → Option Value} (T : Tx K mg) {H : Hp} {a dx : Addr} {fs : List (Str × V)} (h : H a = some (.ins (He.ga K "Plant") dx fs)) : TyX K H (.ref a) (.ref (He.ga K "Plant")) :=
  .base (.ins h T.c_Plant (He.eqO_ok T.ic_Plant) (He.eqO_ok T.ig) (of_decide_eq_true T.it) (of_decide_eq_true T.im_Plant))
def sp_need_plant (K : PySem.W.Frag) : Sp := fun vs H Q _ => ∃ x0, vs = [x0] ∧ ∃ p, PL K H x0 p ∧ Q .non H
theorem ok_need_plant {P : Program} {w : World} {K : PySem.W.Frag} {mg : Str → Option Value} {base : Heap} (T : Tx K mg) : Fn P w K mg base 1 (He.ga K "need_plant") (sp_need_plant K) := by
  obtain ⟨fd, F⟩ := T.d_need_plant
  have hb : Binds K fd ["thing"] [] := F.bindsN fun _ _ _ _ _ _ us hl => match us, hl with | [_], _ => rfl
  refine fn_def F sc_need_plant hb (fun vs H Q E h => by obtain ⟨_, rfl, _⟩ := h; rfl) fun cdv A outer s H vs Q E hr h => ⟨_, PSs.nox (pss_one (ps_if (pt_not (pt_val (pe_callB (kx_isi (K := K)) rfl T.b_isinstance boot_isinstance (pa_cons (pv 0) (pa_cons (pe_glob (v := .ref (He.ga K "Plant")) (by rfl) T.g_Plant rfl) pa_nil))))) (pss_one ps_never) pss_nil)), ?_⟩
  obtain ⟨x0, rfl, h⟩ := h
  obtain ⟨p, hp, q⟩ := h
  obtain ⟨a, dx, fs, rfl, ha⟩ := hp.at_
  exact ⟨_, rfl, _, _, _, _, true, rfl, .own _, ty_plant T ha, of_decide_eq_true T.ki_Plant, true, rfl, iteF q⟩
def sp_need_place (K : PySem.W.Frag) : Sp := fun vs H Q _ => ∃ x0 x1, vs = [x0, x1] ∧ ∃ p i, PL K H x0 p ∧ x1 = .int i ∧ 0 ≤ i ∧ i < p.mv.length ∧ Q .non H
theorem ok_need_place {P : Program} {w : World} {K : PySem.W.Frag} {mg : Str → Option Value} {base : Heap} (T : Tx K mg) : Fn P w K mg base 4 (He.ga K "need_place") (sp_need_place K) := by
  obtain ⟨fd, F⟩ := T.d_need_place
  have hb : Binds K fd ["plant", "thing"] [] := F.bindsN fun _ _ _ _ _ _ us hl => match us, hl with | [_, _], _ => rfl
  refine fn_def F sc_need_place hb (fun vs H Q E h => by obtain ⟨_, _, rfl, _⟩ := h; rfl) fun cdv A outer s H vs Q E hr h => ⟨_, PSs.nox (pss_one (ps_if (pt_not (pt_val (ce_call (ok_is_place (P := P) (w := w) T) (hr.mono (by decide)) rfl T.g_is_place (pa_cons (pv 0) (pa_cons (pv 1) pa_nil))))) (pss_one ps_never) pss_nil)), ?_⟩
  obtain ⟨x0, x1, rfl, h⟩ := h
  obtain ⟨p, i, hp, rfl, h0, h1, q⟩ := h
  refine ⟨_, rfl, _, rfl, _, _, rfl, p, i, hp, rfl, true, ?_, iteF q⟩
  rw [decide_eq_true (show 0 ≤ i ∧ i < p.mv.length from ⟨h0, h1⟩)]
def sp_need_order (K : PySem.W.Frag) : Sp := fun vs H Q _ => ∃ x0 x1, vs = [x0, x1] ∧ ∃ p i, PL K H x0 p ∧ x1 = .int i ∧ 0 ≤ i ∧ i < p.m ∧ Q .non H
theorem ok_need_order {P : Program} {w : World} {K : PySem.W.Frag} {mg : Str → Option Value} {base : Heap} (T : Tx K mg) : Fn P w K mg base 4 (He.ga K "need_order") (sp_need_order K) := by
  obtain ⟨fd, F⟩ := T.d_need_order
  have hb : Binds K fd ["plant", "thing"] [] := F.bindsN fun _ _ _ _ _ _ us hl => match us, hl with | [_, _], _ => rfl
  refine fn_def F sc_need_order hb (fun vs H Q E h => by obtain ⟨_, _, rfl, _⟩ := h; rfl) fun cdv A outer s H vs Q E hr h => ⟨_, PSs.nox (pss_one (ps_if (pt_not (pt_val (ce_call (ok_is_order (P := P) (w := w) T) (hr.mono (by decide)) rfl T.g_is_order (pa_cons (pv 0) (pa_cons (pv 1) pa_nil))))) (pss_one ps_never) pss_nil)), ?_⟩
  obtain ⟨x0, x1, rfl, h⟩ := h
  obtain ⟨p, i, hp, rfl, h0, h1, q⟩ := h
  refine ⟨_, rfl, _, rfl, _, _, rfl, p, i, hp, rfl, true, ?_, iteF q⟩
  rw [decide_eq_true (show 0 ≤ i ∧ i < p.m from ⟨h0, h1⟩)]
theorem at0 {α : Type} {x : α} {xs : List α} : atI (x :: xs) 0 = some x := atI_nat (j := 0) rfl
theorem at1 {α : Type} {x y : α} {xs : List α} : atI (x :: y :: xs) 1 = some y := atI_nat (j := 1) rfl
theorem at2 {α : Type} {x y z : α} {xs : List α} : atI (x :: y :: z :: xs) 2 = some z := atI_nat (j := 2) rfl
def sp_is_triple (K : PySem.W.Frag) : Sp := fun vs H Q _ => ∃ x0 x1, vs = [x0, x1] ∧ ∃ p t, PL K H x0 p ∧ TR H x1 t ∧ InR p t ∧ Q (.bl true) H
theorem ok_is_triple {P : Program} {w : World} {K : PySem.W.Frag} {mg : Str → Option Value} {base : Heap} (T : Tx K mg) : Fn P w K mg base 4 (He.ga K "is_triple") (sp_is_triple K) := by
  obtain ⟨fd, F⟩ := T.d_is_triple
  have hb : Binds K fd ["plant", "thing"] [] := F.bindsN fun _ _ _ _ _ _ us hl => match us, hl with | [_, _], _ => rfl
  refine fn_def F sc_is_triple hb (fun vs H Q E h => by obtain ⟨_, _, rfl, _⟩ := h; rfl) fun cdv A outer s H vs Q E hr h => ⟨_, PSs.nox (pss_cons (ps_if (PW.pt (pw_or (pt_not (pt_val (pe_callB (kx_isi (K := K)) rfl T.b_isinstance boot_isinstance (pa_cons (pv 1) (pa_cons (pe_bltn (v := .ty "tuple") (by rfl) T.b_tuple boot_tuple rfl) pa_nil))))) (pw_or1 (pt_cmpR op_ne (pe_callB (cl_len (K := K)) rfl T.b_len boot_len (pa_cons (pv 1) pa_nil)) pe_int (nomark _))))) (pss_one (ps_ret pe_bl)) pss_nil)
      (pss_one (ps_ret (pe_and (ce_call (ok_is_place (P := P) (w := w) T) (hr.mono (by decide)) rfl T.g_is_place (pa_cons (pv 0) (pa_cons (pe_ix (kx_ix_tup (K := K)) (pv 1) pe_int (fun _ _ => rfl)) pa_nil))) (pe_and (ce_call (ok_is_order (P := P) (w := w) T) (hr.mono (by decide)) rfl T.g_is_order (pa_cons (pv 0) (pa_cons (pe_ix (kx_ix_tup (K := K)) (pv 1) pe_int (fun _ _ => rfl)) pa_nil))) (pe_one (ce_call (ok_is_place (P := P) (w := w) T) (hr.mono (by decide)) rfl T.g_is_place (pa_cons (pv 0) (pa_cons (pe_ix (kx_ix_tup (K := K)) (pv 1) pe_int (fun _ _ => rfl)) pa_nil))))))))), ?_⟩
  obtain ⟨x0, x1, rfl, h⟩ := h
  obtain ⟨p, t, hp, ⟨a, rfl, ha⟩, r, q⟩ := h
  refine ⟨_, rfl, _, _, _, _, true, rfl, .ty "tuple", ty_tup ha, kit_tt, true, rfl, iteF ?_⟩
  refine ⟨_, rfl, _, 3, rfl, .inr ⟨_, sqT ha, rfl⟩, rfl, false, rfl, iteF ?_⟩
  refine ⟨_, rfl, _, rfl, _, _, _, _, rfl, rfl, sqT ha, at0, _, _, rfl, p, t.1, hp, rfl, true, by rw [decide_eq_true (show 0 ≤ t.1 ∧ t.1 < p.mv.length from ⟨r.a0, r.a1⟩)], iteT ?_⟩
  refine ⟨_, rfl, _, rfl, _, _, _, _, rfl, rfl, sqT ha, at1, _, _, rfl, p, t.2.1, hp, rfl, true, by rw [decide_eq_true (show 0 ≤ t.2.1 ∧ t.2.1 < p.m from ⟨r.b0, r.b1⟩)], iteT ?_⟩
  refine ⟨_, rfl, _, rfl, _, _, _, _, rfl, rfl, sqT ha, at2, _, _, rfl, p, t.2.2, hp, rfl, ?_⟩
  rw [decide_eq_true (show 0 ≤ t.2.2 ∧ t.2.2 < p.mv.length from ⟨r.c0, r.c1⟩)]
  exact q
/-- rows[place][order] -/
theorem PL.cell {K : PySem.W.Frag} {H : Hp} {v : V} {p : Pd} (h : PL K H v p) {i o : Int} (h0 : 0 ≤ i) (h1 : i < p.mv.length) (h2 : 0 ≤ o) (h3 : o < p.m) :
    ∃ a dx fs a1 xs x a2 ys y, v = .ref a ∧ H a = some (.ins (He.ga K "Plant") dx fs) ∧ fs.lookup ("rows" : Str) = some (.ref a1) ∧ H a1 = some (.tup xs) ∧ atI xs i = some x ∧ x = .ref a2 ∧ H a2 = some (.tup ys) ∧ atI ys o = some y ∧ IT H y (LH.ans p.mv i o) := by
  obtain ⟨ok, a, dx, rv, mk, b, g, rfl, ha, hm, _⟩ := h
  obtain ⟨a1, xs, x, r, rfl, e1, e2, e3, e4⟩ := hm.row h0 h1
  obtain ⟨a2, ys, y, l, rfl, f1, f2, f3, f4⟩ := e4.cell h2 (by rw [ok.wf.len e3]; exact h3)
  refine ⟨a, dx, _, a1, xs, _, a2, ys, y, rfl, ha, rfl, e1, e2, rfl, f1, f2, ?_⟩
  rw [ans_of e3 f3]
  exact f4
def sp_Plant_call (K : PySem.W.Frag) : Sp := fun vs H Q _ => ∃ x0 x1 x2, vs = [x0, x1, x2] ∧ ∃ p i o, PL K H x0 p ∧ x1 = .int i ∧ x2 = .int o ∧ 0 ≤ i ∧ i < p.mv.length ∧ 0 ≤ o ∧ o < p.m ∧ ∀ v, IT H v (LH.ans p.mv i o) → Q v H
theorem ok_Plant_call {P : Program} {w : World} {K : PySem.W.Frag} {mg : Str → Option Value} {base : Heap} (T : Tx K mg) : Fn P w K mg base 5 (He.ma K (He.ga K "Plant") "__call__") (sp_Plant_call K) := by
  obtain ⟨fd, F⟩ := T.d_Plant_call
  have hb : Binds K fd ["self", "place", "order"] [] := F.bindsN fun _ _ _ _ _ _ us hl => match us, hl with | [_, _, _], _ => rfl
  refine fn_def F sc_Plant_call hb (fun vs H Q E h => by obtain ⟨_, _, _, rfl, _⟩ := h; rfl) fun cdv A outer s H vs Q E hr h => ⟨_, PSs.nox (pss_cons (ps_expr (ce_call (ok_need_place (P := P) (w := w) T) (hr.mono (by decide)) rfl T.g_need_place (pa_cons (pv 0) (pa_cons (pv 1) pa_nil))))
      (pss_cons (ps_expr (ce_call (ok_need_order (P := P) (w := w) T) (hr.mono (by decide)) rfl T.g_need_order (pa_cons (pv 0) (pa_cons (pv 2) pa_nil))))
      (pss_one (ps_ret (pe_ix (kx_ix_tup (K := K)) (pe_ix (kx_ix_tup (K := K)) (kx_fld (K := K) (pe_fld (pv 0) rfl)) (pv 1) (fun _ _ => rfl)) (pv 2) (fun _ _ => rfl)))))), ?_⟩
  obtain ⟨x0, x1, x2, rfl, h⟩ := h
  obtain ⟨p, i, o, hp, rfl, rfl, h0, h1, h2, h3, q⟩ := h
  obtain ⟨a, dx, fs, a1, xs, x, a2, ys, y, rfl, e0, e1, e2, e3, rfl, e4, e5, e6⟩ := hp.cell h0 h1 h2 h3
  refine ⟨_, rfl, _, rfl, _, _, rfl, p, i, hp, rfl, h0, h1, ?_⟩
  refine ⟨_, rfl, _, rfl, _, _, rfl, p, o, hp, rfl, h2, h3, ?_⟩
  exact ⟨_, rfl, _, _, _, _, _, rfl, e0, T.c_Plant, T.na_rows, e1, _, rfl, _, _, _, _, rfl, rfl, sqT e2, e3, _, rfl, _, _, _, _, rfl, rfl, sqT e4, e5, q _ e6⟩
theorem inV_ints (x : Int) : ∀ ns : List Int, inV (.int x) (ns.map V.int) = decide (x ∈ ns)
  | [] => rfl
  | n :: ns => by
    have e : inV (.int x) ((n :: ns).map V.int) = (eqV (.int n) (.int x) || inV (.int x) (ns.map V.int)) := rfl
    rw [e, inV_ints x ns]
    have e2 : eqV (.int n) (.int x) = decide (x = n) := by
      show (n == x) = decide (x = n)
      by_cases q : n = x
      · subst q
        simp
      · have q2 : ¬ x = n := fun z => q z.symm
        simp [q, q2]
    rw [e2]
    simp
theorem flat_ints : ∀ ns : List Int, (ns.map V.int).all flatV = true
  | [] => rfl
  | n :: ns => by
    show (flatV (.int n) && (ns.map V.int).all flatV) = true
    rw [flat_ints ns]
    rfl
def sp_Plant_contains (K : PySem.W.Frag) : Sp := fun vs H Q _ => ∃ x0 x1, vs = [x0, x1] ∧ ∃ p t, PL K H x0 p ∧ TR H x1 t ∧ InR p t ∧ Q (.bl (decide (t.2.2 ∈ LH.ans p.mv t.1 t.2.1))) H
theorem ok_Plant_contains {P : Program} {w : World} {K : PySem.W.Frag} {mg : Str → Option Value} {base : Heap} (T : Tx K mg) : Fn P w K mg base 5 (He.ma K (He.ga K "Plant") "__contains__") (sp_Plant_contains K) := by
  obtain ⟨fd, F⟩ := T.d_Plant_contains
  have hb : Binds K fd ["self", "thing"] [] := F.bindsN fun _ _ _ _ _ _ us hl => match us, hl with | [_, _], _ => rfl
  refine fn_def F sc_Plant_contains hb (fun vs H Q E h => by obtain ⟨_, _, rfl, _⟩ := h; rfl) fun cdv A outer s H vs Q E hr h => ⟨_, PSs.nox (pss_one (ps_ret (pe_and (ce_call (ok_is_triple (P := P) (w := w) T) (hr.mono (by decide)) rfl T.g_is_triple (pa_cons (pv 0) (pa_cons (pv 1) pa_nil))) (pe_one (pe_cmpR (kx_in (K := K)) (pe_ix (kx_ix_tup (K := K)) (pv 1) pe_int (fun _ _ => rfl)) (pe_ix (kx_ix_tup (K := K)) (pe_ix (kx_ix_tup (K := K)) (kx_fld (K := K) (pe_fld (pv 0) rfl)) (pe_ix (kx_ix_tup (K := K)) (pv 1) pe_int (fun _ _ => rfl)) (fun _ _ => rfl)) (pe_ix (kx_ix_tup (K := K)) (pv 1) pe_int (fun _ _ => rfl)) (fun _ _ => rfl)) (by rfl)))))), ?_⟩
  obtain ⟨x0, x1, rfl, h⟩ := h
  obtain ⟨p, t, hp, ht, r, q⟩ := h
  obtain ⟨a, dx, fs, a1, xs, x, a2, ys, y, rfl, e0, e1, e2, e3, rfl, e4, e5, e6⟩ := hp.cell r.a0 r.a1 r.b0 r.b1
  obtain ⟨b, rfl, hb⟩ := id ht
  obtain ⟨c, rfl, hc⟩ := e6
  refine ⟨_, rfl, _, rfl, _, _, rfl, p, t, hp, ht, r, true, rfl, iteT ?_⟩
  refine ⟨_, rfl, _, _, _, _, rfl, rfl, sqT hb, at2, _, rfl, _, _, _, _, _, rfl, e0, T.c_Plant, T.na_rows, e1, _, rfl, _, _, _, _, rfl, rfl, sqT hb, at0, _, _, _, _, rfl, rfl, sqT e2, e3, _, rfl, _, _, _, _, rfl, rfl, sqT hb, at1, _, _, _, _, rfl, rfl, sqT e4, e5, ?_⟩
  refine ⟨c, _, rfl, .inr (sqT hc), rfl, flat_ints _, ?_⟩
  show Q (.bl (inV (.int t.2.2) ((LH.ans p.mv t.1 t.2.1).map V.int))) H
  rw [inV_ints]
  exact q
end Lh
set_option Elab.async false
set_option linter.all false
set_option maxRecDepth 100000
set_option maxHeartbeats 4000000
/-! The defs of plants: moves, the making, an order's answers changed. -/
namespace Lh
open PySem PySem.Spec PyProof.Rows L2
theorem bl_true {p : Prop} [Decidable p] (h : p) : V.bl (decide p) = V.bl true := by rw [decide_eq_true h]
theorem bl_false {p : Prop} [Decidable p] (h : ¬ p) : V.bl (decide p) = V.bl false := by rw [decide_eq_false h]
theorem any_rep (k : Nat) : ((List.replicate k false).any id) = false := by
  induction k with
  | zero => rfl
  | succ k ih => rw [List.replicate_succ, List.any_cons, ih]; rfl
theorem rep_step {H2 : Hp} {k : Nat} {acc : List V} (h : acc = (List.replicate k true).map V.bl) : Same H2 H2 ∧ acc ++ [V.bl true] = (List.replicate (k + 1) true).map V.bl := ⟨fun _ _ e => e, by rw [h, rep_succ]⟩
theorem Asc_len {n : Nat} : ∀ {l : List Int}, Asc n l → l.length ≤ n := by
  intro l h
  have key : ∀ (l : List Int) (lo : Int), l.Pairwise (· < ·) → (∀ x ∈ l, lo ≤ x ∧ x < n) → lo ≤ n → (l.length : Int) ≤ n - lo := by
    intro l
    induction l with
    | nil => intro lo _ _ h; simp; omega
    | cons x r ih =>
      intro lo hp hb hlo
      obtain ⟨h1, h2⟩ := List.pairwise_cons.mp hp
      obtain ⟨b1, b2⟩ := hb x (List.mem_cons_self ..)
      have := ih (x + 1) h2 (fun y hy => ⟨by have := h1 y hy; omega, (hb y (List.mem_cons_of_mem _ hy)).2⟩) (by omega)
      simp only [List.length_cons]
      omega
  have := key l 0 h.1 h.2 (by omega)
  omega
def sp_are_moves (K : PySem.W.Frag) : Sp := fun vs H Q _ => ∃ x0, vs = [x0] ∧ ∃ mv m, MT H x0 mv ∧ Wf mv m ∧ ∀ H', Same H H' → Q (.bl true) H'
theorem ok_are_moves {P : Program} {w : World} {K : PySem.W.Frag} {mg : Str → Option Value} {base : Heap} (T : Tx K mg) : Fn P w K mg base 3 (He.ga K "are_moves") (sp_are_moves K) := by
  obtain ⟨fd, F⟩ := T.d_are_moves
  have hb : Binds K fd ["thing"] [] := F.bindsN fun _ _ _ _ _ _ us hl => match us, hl with | [_], _ => rfl
  refine fn_def F sc_are_moves hb (fun vs H Q E h => by obtain ⟨_, rfl, _⟩ := h; rfl) fun cdv A outer s H vs Q E hr h => ⟨_, PSs.nox (pss_cons (ps_if (PW.pt (pw_or (pt_not (pt_val (pe_callB (kx_isi (K := K)) rfl T.b_isinstance boot_isinstance (pa_cons (pv 0) (pa_cons (pe_bltn (v := .ty "tuple") (by rfl) T.b_tuple boot_tuple rfl) pa_nil))))) (pw_or1 (pt_not (pt_chain op_le op_le pe_int (pe_callB (cl_len (K := K)) rfl T.b_len boot_len (pa_cons (pv 0) pa_nil)) (ce_gi rfl T.i_MOST_PLACES)))))) (pss_one (ps_ret pe_bl)) pss_nil)
      (pss_cons (ps_if (pt_not (pt_val (pe_callB (kx_all (K := K) rfl) rfl T.b_all boot_all (pa_cons (kx_lc (K := K) (ce_lc .t rfl sc_are_moves.nd (pv 0) (blkOk_by (own := [("row", 1)]) (N := n_are_moves) (sc := defScope s_are_moves) (by decide +kernel)) (fun _ _ _ _ _ => pg_name (i := 1) sc_are_moves.nd rfl (Or.inl rfl)) (fun _ _ _ _ _ => pts_nil) (fun _ _ _ _ _ => (pe_and (pe_callB (kx_isi (K := K)) rfl T.b_isinstance boot_isinstance (pa_cons (pv 1) (pa_cons (pe_bltn (v := .ty "tuple") (by rfl) T.b_tuple boot_tuple rfl) pa_nil))) (pe_one (pe_chain op_le op_le pe_int (pe_callB (cl_len (K := K)) rfl T.b_len boot_len (pa_cons (pv 1) pa_nil)) (ce_gi rfl T.i_MOST_ORDERS))))))) pa_nil)))) (pss_one (ps_ret pe_bl)) pss_nil)
      (pss_cons (ps_if (pt_not (pt_val (pe_callB (kx_all (K := K) rfl) rfl T.b_all boot_all (pa_cons (kx_lc (K := K) (ce_lc .t rfl sc_are_moves.nd (pv 0) (blkOk_by (own := [("row", 1)]) (N := n_are_moves) (sc := defScope s_are_moves) (by decide +kernel)) (fun _ _ _ _ _ => pg_name (i := 1) sc_are_moves.nd rfl (Or.inl rfl)) (fun _ _ _ _ _ => pts_nil) (fun _ _ _ _ _ => (pe_cmpR op_eq (pe_callB (cl_len (K := K)) rfl T.b_len boot_len (pa_cons (pv 1) pa_nil)) (pe_callB (cl_len (K := K)) rfl T.b_len boot_len (pa_cons (pe_ix (kx_ix_tup (K := K)) (pv 0) pe_int (fun _ _ => rfl)) pa_nil)) (nomark _))))) pa_nil)))) (pss_one (ps_ret pe_bl)) pss_nil)
      (pss_one (ps_ret (pe_callB (kx_all (K := K) rfl) rfl T.b_all boot_all (pa_cons (ce_lc2 rfl sc_are_moves.nd (pv 0) (blkOk_by (own := [("row", 1), ("answers", 2)]) (N := n_are_moves) (sc := defScope s_are_moves) (by decide +kernel)) (by decide) (fun _ _ _ _ _ => pg_name (i := 1) sc_are_moves.nd rfl (Or.inl rfl)) (fun _ _ _ _ _ => (pv 1)) (fun _ _ _ _ _ => pg_name (i := 2) sc_are_moves.nd rfl (Or.inl rfl)) (fun _ _ _ _ _ => (pe_and (ce_call (ok_are_ascending (P := P) (w := w) T) (hr.mono (by decide)) rfl T.g_are_ascending (pa_cons (pv 2) (pa_cons (pe_callB (cl_len (K := K)) rfl T.b_len boot_len (pa_cons (pv 0) pa_nil)) pa_nil))) (pe_one (pe_cmpR op_gt (pe_callB (cl_len (K := K)) rfl T.b_len boot_len (pa_cons (pv 2) pa_nil)) pe_int (nomark _)))))) pa_nil))))))), ?_⟩
  obtain ⟨x0, rfl, h⟩ := h
  obtain ⟨mv, m, ⟨a, xs, rfl, ha, al⟩, wf, q⟩ := h
  have hl := al.1
  have n1 := wf.n1
  have n4 := wf.n4
  have m1 := wf.m1
  have m3 := wf.m3
  refine ⟨_, rfl, _, _, _, _, true, rfl, .ty "tuple", ty_tup ha, kit_tt, true, rfl, iteF ?_⟩
  refine ⟨_, rfl, _, xs.length, rfl, .inr ⟨_, sqT ha, rfl⟩, 1, xs.length, rfl, rfl, true, bl_true (by omega), iteT ⟨xs.length, 6, rfl, rfl, true, bl_true (by omega), iteF ?_⟩⟩
  refine ⟨_, rfl, a, _, rfl, sqT ha, by omega, by simp, fun k acc _ => acc = (List.replicate k true).map V.bl, rfl, fun _ _ _ _ _ z => z, fun k x H2 acc hx hR hS => mTT.mk (yesT ?_), fun D acc H2 hD hS hd hR => ?_⟩
  · obtain ⟨r, hr2, c, cs, rfl, hc, cal⟩ := al.get hx
    have hc2 := hS _ _ hc
    have hrl := wf.len hr2
    have cl := cal.1
    exact mTE.mk ⟨_, rfl, _, _, _, _, true, rfl, .ty "tuple", ty_tup hc2, kit_tt, true, rfl, iteT ⟨_, rfl, _, cs.length, rfl, .inr ⟨_, sqT hc2, rfl⟩, 1, cs.length, rfl, rfl, true, bl_true (by omega), iteT ⟨cs.length, 3, rfl, rfl, by
      dsimp only
      rw [bl_true (show (cs.length : Int) ≤ 3 by omega)]
      exact rep_step hR⟩⟩⟩
  have hR : acc = _ := hR
  subst hR
  refine ⟨D, _, rfl, sqL hd, true, by rw [all_rep], iteF ?_⟩
  have ha2 := hS _ _ ha
  refine ⟨_, rfl, a, _, rfl, sqT ha2, by omega, by simp, fun k acc _ => acc = (List.replicate k true).map V.bl, rfl, fun _ _ _ _ _ z => z, fun k x H3 acc hx hR hS3 => mTT.mk (yesT ?_), fun D2 acc H3 hD2 hS3 hd2 hR => ?_⟩
  · obtain ⟨r, hr2, c, cs, rfl, hc, cal⟩ := al.get hx
    obtain ⟨x0, hx0, c0, cs0, rfl, hc0, cal0⟩ := al.get' (i := 0) (List.getElem?_eq_getElem (show 0 < mv.length by omega))
    have hc2 := (hS.trans hS3) _ _ hc
    have hc3 := (hS.trans hS3) _ _ hc0
    have ha3 := hS3 _ _ ha2
    have e1 : cs.length = m := by rw [cal.1, wf.len hr2]
    have e2 : cs0.length = m := by rw [cal0.1]; exact wf.row _ (List.getElem_mem _)
    refine mTE.mk ⟨_, rfl, _, cs.length, rfl, .inr ⟨_, sqT hc2, rfl⟩, _, rfl, a, _, 0, _, rfl, rfl, sqT ha3, atI_nat (j := 0) hx0, _, cs0.length, rfl, .inr ⟨_, sqT hc3, rfl⟩, rfl, ?_⟩
    rw [e1, e2]
    rw [bl_true rfl]
    exact rep_step hR
  have hR : acc = _ := hR
  subst hR
  refine ⟨D2, _, rfl, sqL hd2, true, by rw [all_rep], iteF ?_⟩
  have hS4 := hS.trans hS3
  have ha4 := hS3 _ _ ha2
  refine ⟨_, rfl, a, _, rfl, sqT ha4, by omega, by simp, by simp, fun _ acc => ∃ j, acc = (List.replicate j true).map V.bl, ⟨0, rfl⟩, fun k x H5 acc hx hR hS5 => ?_, fun D5 acc H5 hD5 hS5 hd5 _ hR => ?_⟩
  · obtain ⟨r, hr2, c, cs, rfl, hc, cal⟩ := al.get hx
    have hc2 := (hS4.trans hS5) _ _ hc
    have cl := cal.1
    have hrl := wf.len hr2
    refine mTE.mk ⟨_, rfl, c, cs, rfl, fun H' k => sqT (k _ _ hc2 True.intro), by omega, fun _ _ e => e, fun _ acc => ∃ j, acc = (List.replicate j true).map V.bl, hR, fun _ z => z, fun j z H6 acc hz hR6 hS6 => ?_⟩
    obtain ⟨l, hl2, hit⟩ := cal.get hz
    have hit6 : IT H6 z l := hit.kp (Kp.of (hS4.trans hS6))
    obtain ⟨lne, lasc⟩ := wf.an r (List.mem_of_getElem? hr2) l (List.mem_of_getElem? hl2)
    have ha6 := (hS4.trans hS6) _ _ ha
    have hll : l.length ≤ 60 := by
      have := Asc_len lasc
      omega
    refine mTE.mk ⟨_, rfl, _, rfl, _, xs.length, rfl, .inr ⟨_, sqT ha6, rfl⟩, _, _, rfl, l, xs.length, hit6, rfl, by rw [hl]; exact lasc, hll, fun H7 hS7 => ⟨true, rfl, iteT ?_⟩⟩
    obtain ⟨b, rfl, hb7⟩ := hit6
    refine ⟨_, rfl, _, l.length, rfl, .inr ⟨_, sqT (hS7 _ _ hb7), by simp⟩, l.length, 0, rfl, rfl, ?_⟩
    have lp : 0 < l.length := List.length_pos_iff.mpr lne
    dsimp only
    rw [bl_true (show (0 : Int) < l.length by omega)]
    obtain ⟨j2, hj2⟩ := hR6
    exact ⟨hS7, j2 + 1, by rw [hj2, rep_succ]⟩
  · obtain ⟨j, hj⟩ := hR
    subst hj
    refine ⟨D5, _, rfl, sqL hd5, ?_⟩
    rw [all_rep]
    exact q _ (hS4.trans hS5)
theorem PL.kpS {K : PySem.W.Frag} {H H' : Hp} {v : V} {p : Pd} (k : Same H H') (h : PL K H v p) : PL K H' v p := h.kp (Kp.of k)
def sp_Plant_init (K : PySem.W.Frag) : Sp := fun vs H Q _ => ∃ x0 x1 x2 x3, vs = [x0, x1, x2, x3] ∧ ∃ (a dx : Addr) (p : Pd), x0 = .ref a ∧ H a = some (.ins (He.ga K "Plant") dx []) ∧ MT H x1 p.mv ∧ IT H x2 p.bad ∧ IT H x3 p.goal ∧ p.Ok ∧
  ∀ H' mk, (∀ b o, b ≠ a → H b = some o → H' b = some o) → H' a = some (.ins (He.ga K "Plant") dx [("rows", x1), ("marks", .ref mk)]) → H' mk = some (.tup [x2, x3]) → Q .non H'
theorem ok_Plant_init {P : Program} {w : World} {K : PySem.W.Frag} {mg : Str → Option Value} {base : Heap} (T : Tx K mg) : Fn P w K mg base 4 (He.ma K (He.ga K "Plant") "__init__") (sp_Plant_init K) := by
  obtain ⟨fd, F⟩ := T.d_Plant_init
  have hb : Binds K fd ["self", "moves", "bad", "goal"] [] := binds_dfl F (fun e => List.cons_ne_nil _ _ e) fun _ _ _ _ _ _ _ us its hl hd => match us, its, hl, hd with | [_, _, _, _], [_, _], _, _ => ⟨_, rfl, rfl⟩
  refine fn_def F sc_Plant_init hb (fun vs H Q E h => by obtain ⟨_, _, _, _, rfl, _⟩ := h; rfl) fun cdv A outer s H vs Q E hr h => ⟨_, PSs.nox (pss_cons (ps_if (pt_not (pt_val (ce_call (ok_are_moves (P := P) (w := w) T) (hr.mono (by decide)) rfl T.g_are_moves (pa_cons (pv 1) pa_nil)))) (pss_one ps_never) pss_nil)
      (pss_cons (ps_for PassesOwn.never rfl (pi_tup (ce_tup (pa_cons (pv 2) (pa_cons (pv 3) pa_nil)))) (pg_name (i := 4) sc_Plant_init.nd rfl (by first | exact Or.inl rfl | exact Or.inr rfl)) (pss_one (ps_if (pt_not (pt_val (ce_call (ok_are_ascending (P := P) (w := w) T) (hr.mono (by decide)) rfl T.g_are_ascending (pa_cons (pv 4) (pa_cons (pe_callB (cl_len (K := K)) rfl T.b_len boot_len (pa_cons (pv 1) pa_nil)) pa_nil))))) (pss_one ps_never) pss_nil)))
      (pss_cons (ps_if (pt_val (pe_callB (kx_any (K := K) rfl) rfl T.b_any boot_any (pa_cons (kx_lc (K := K) (ce_lc .t rfl sc_Plant_init.nd (pv 2) (blkOk_by (own := [("place", 5)]) (N := n_Plant_init) (sc := defScope s_Plant_init) (by decide +kernel)) (fun _ _ _ _ _ => pg_name (i := 5) sc_Plant_init.nd rfl (Or.inl rfl)) (fun _ _ _ _ _ => pts_nil) (fun _ _ _ _ _ => (pe_cmpR (kx_in (K := K)) (pv 5) (pv 3) (by rfl))))) pa_nil))) (pss_one ps_never) pss_nil)
      (pss_cons (ps_fld (pv 0) (pv 1) rfl)
      (pss_one (ps_fld (pv 0) (ce_tup (pa_cons (pv 2) (pa_cons (pv 3) pa_nil))) rfl)))))), ?_⟩
  obtain ⟨x0, x1, x2, x3, rfl, h⟩ := h
  obtain ⟨a, dx, p, rfl, ha, hm, hb1, hg1, ok, q⟩ := h
  refine ⟨_, rfl, _, rfl, p.mv, p.m, hm, ok.wf, fun H1 hS1 => ⟨true, rfl, iteF ?_⟩⟩
  obtain ⟨am, xs, rfl, hm2, al⟩ := id hm
  have hl := al.1
  refine ⟨_, rfl, _, rfl, by simp, fun t H2 ht hS2 ht2 => ?_⟩
  refine ⟨t, rfl, ⟨_, sqT ht2⟩, for_tup (xs := [x2, x3]) (fun k σ H3 => Same H H3 ∧ H3 t = some (.tup [x2, x3]) ∧ ∃ z, σ = ((start n_Plant_init [V.ref a, .ref am, x2, x3]).set 4 z)) ⟨hS1.trans hS2, ht2, none, rfl⟩ (fun k σ H3 _ z => sqT z.2.1) (fun k x σ H3 hx ⟨hS3, ht3, z, hz⟩ => ?_) fun σ H3 ⟨hS3, ht3, z, hz⟩ => ?_⟩
  · subst hz
    have hit : ∃ l, IT H x l ∧ Asc p.mv.length l := by
      match k, hx with
      | 0, hx => cases hx; exact ⟨_, hb1, ok.b⟩
      | 1, hx => cases hx; exact ⟨_, hg1, ok.g⟩
    obtain ⟨l, h1, h2⟩ := hit
    have := Asc_len h2
    have n4 := ok.wf.n4
    refine ⟨_, rfl, _, rfl, _, xs.length, rfl, .inr ⟨_, sqT (hS3 _ _ hm2), rfl⟩, _, _, rfl, l, xs.length, h1.kp (Kp.of hS3), rfl, by rw [hl]; exact h2, by omega, fun H4 hS4 => ⟨true, rfl, iteF ⟨hS3.trans hS4, hS4 _ _ ht3, some x, rfl⟩⟩⟩
  · subst hz
    obtain ⟨ab, rfl, hb2⟩ := hb1.kp (Kp.of hS3)
    obtain ⟨ag, rfl, hg2⟩ := hg1.kp (Kp.of hS3)
    have n4 := ok.wf.n4
    have lb := Asc_len ok.b
    refine ⟨_, rfl, ab, _, rfl, sqT hb2, by simp; omega, by simp, fun k acc _ => acc = (List.replicate k false).map V.bl, rfl, fun _ _ _ _ _ z => z, fun k x H4 acc hx hR hS4 => mTT.mk (yesT ?_), fun D acc H4 hD hS4 hd hR => ?_⟩
    · obtain ⟨i, hi, rfl⟩ := ints_at hx
      refine mTE.mk ⟨_, rfl, _, rfl, ag, _, rfl, .inr (sqT (hS4 _ _ hg2)), rfl, flat_ints _, ?_⟩
      have hR : acc = _ := hR
      subst hR
      refine ⟨fun _ _ e => e, ?_⟩
      show (List.replicate k false).map V.bl ++ [V.bl (inV (.int i) (p.goal.map V.int))] = _
      rw [inV_ints, decide_eq_false (ok.d i (List.mem_of_getElem? hi)), List.replicate_succ', List.map_append]
      rfl
    · have hR : acc = _ := hR
      subst hR
      refine ⟨D, _, rfl, sqL hd, false, by rw [any_rep], iteF ?_⟩
      have ha4 := (hS3.trans hS4) _ _ ha
      refine ⟨_, rfl, _, rfl, _, _, _, _, rfl, ha4, T.c_Plant, T.na_rows, (by show (0 : Nat) < 1000; decide), ?_⟩
      refine ⟨_, rfl, _, rfl, by simp, fun mk H6 hmk hS6 hmk6 => ?_⟩
      refine ⟨_, rfl, _, _, _, _, rfl, hS6 _ _ upd_same, T.c_Plant, T.na_marks, (by show (1 : Nat) < 1000; decide), ?_⟩
      have hne : mk ≠ a := fun e => by rw [e, upd_same] at hmk; exact nomatch hmk
      refine q _ mk (fun b o hb e => ?_) upd_same (by rw [upd_ne hne]; exact hmk6)
      rw [upd_ne hb]
      exact hS6 _ _ (by rw [upd_ne hb]; exact (hS3.trans hS4) _ _ e)
/-- a plant is made -/
theorem make_plant {K : PySem.W.Frag} {H1 : Hp} {Q : VK} {m b g : V} {p : Pd} (hm : MT H1 m p.mv) (hb : IT H1 b p.bad) (hg : IT H1 g p.goal) (ok : p.Ok) (q : ∀ x H', Same H1 H' → PL K H' (.ref x) p → Q (.ref x) H') :
    ∀ x dx H2, H1 x = none → H1 dx = none → dx ≠ x → Same H1 H2 → H2 dx = some (.own x) → H2 x = some (.ins (He.ga K "Plant") dx []) → sp_Plant_init K [.ref x, m, b, g] H2 (fun v H3 => v = .non ∧ Q (.ref x) H3) E0 := by
  intro x dx H2 hx hdx ne hS hown hins
  have k := Kp.of hS
  refine ⟨_, _, _, _, rfl, x, dx, p, rfl, hins, hm.kp k, hb.kp k, hg.kp k, ok, fun H' mk h1 h2 h3 => ⟨rfl, ?_⟩⟩
  have hS' : Same H1 H' := fun b o e => h1 b o (ne_of_none e hx) (hS b o e)
  have k' := Kp.of hS'
  exact q x H' hS' ⟨ok, x, dx, m, mk, b, g, rfl, h2, hm.kp k', h3, hb.kp k', hg.kp k'⟩
end Lh
set_option Elab.async false
set_option linter.all false
set_option maxRecDepth 100000
set_option maxHeartbeats 4000000
/-! The defs of plants: an order's answers changed. -/
namespace Lh
open PySem PySem.Spec PyProof.Rows L2
theorem All2.drop {α β : Type} {R : α → β → Prop} {xs : List α} {ys : List β} (h : All2 R xs ys) (n : Nat) : All2 R (xs.drop n) (ys.drop n) := by
  refine ⟨by simp [h.1], fun i x y a b => ?_⟩
  rw [List.getElem?_drop] at a b
  exact h.2 _ x y a b
theorem All2.splice {α β : Type} {R : α → β → Prop} {xs : List α} {ys : List β} {x : α} {y : β} (h : All2 R xs ys) (r : R x y) {i : Nat} (hi : i < ys.length) : All2 R (xs.take i ++ x :: xs.drop (i + 1)) (ys.set i y) := by
  rw [List.set_eq_take_append_cons_drop, if_pos hi]
  exact (h.take i).append (All2.cons r (h.drop (i + 1)))
theorem All2.splice2 {α β : Type} {R : α → β → Prop} {xs zs : List α} {ys : List β} {x : α} {y : β} (h : All2 R xs ys) (h' : All2 R zs ys) (r : R x y) {i : Nat} (hi : i < ys.length) : All2 R (xs.take i ++ x :: zs.drop (i + 1)) (ys.set i y) := by
  rw [List.set_eq_take_append_cons_drop, if_pos hi]
  exact (h.take i).append (All2.cons r (h'.drop (i + 1)))
theorem cut_take {xs : List V} {o : Int} (h0 : 0 ≤ o) (h1 : o ≤ xs.length) : cutV xs none (some o) = xs.take o.toNat := by
  have e : HT.sIx xs.length xs.length (some o) = o.toNat := by
    show (if o < 0 then (o + (xs.length : Int)).toNat else min o.toNat xs.length) = _
    rw [if_neg (by omega)]
    omega
  unfold cutV
  rw [e]
  show (xs.drop 0).take (o.toNat - 0) = _
  simp
theorem cut_drop {xs : List V} {o : Int} (h0 : 0 ≤ o) : cutV xs (some o) none = xs.drop o.toNat := by
  have e : HT.sIx xs.length 0 (some o) = min o.toNat xs.length := by
    show (if o < 0 then (o + (xs.length : Int)).toNat else min o.toNat xs.length) = _
    rw [if_neg (by omega)]
  unfold cutV
  rw [e]
  show (xs.drop (min o.toNat xs.length)).take (xs.length - min o.toNat xs.length) = _
  rw [List.take_of_length_le (by simp)]
  by_cases h : o.toNat ≤ xs.length
  · rw [Nat.min_eq_left h]
  · rw [Nat.min_eq_right (by omega), List.drop_of_length_le (Nat.le_refl _), List.drop_of_length_le (by omega)]
theorem setAns_eq {mv : Mv} {i o : Int} {l : List Int} {r : List (List Int)} (h : mv[i.toNat]? = some r) : LH.setAns mv i o l = mv.set i.toNat (r.set o.toNat l) := by
  unfold LH.setAns
  refine List.ext_getElem? fun j => ?_
  rw [List.getElem?_modify]
  by_cases e : i.toNat = j
  · subst e
    have hl := (List.getElem?_eq_some_iff.mp h).1
    rw [List.getElem?_set_self hl, h]
    simp
  · rw [List.getElem?_set_ne e]
    simp [e]
theorem Wf.set {mv : Mv} {m : Nat} (h : Wf mv m) {i o : Int} {l : List Int} (hl : l ≠ []) (ha : Asc mv.length l) {r : List (List Int)} (hr : mv[i.toNat]? = some r) : Wf (LH.setAns mv i o l) m := by
  rw [setAns_eq hr]
  have rl := h.len hr
  refine ⟨by simpa using h.n1, by simpa using h.n4, h.m1, h.m3, fun q hq => ?_, fun q hq k hk => ?_⟩
  · rcases List.mem_or_eq_of_mem_set hq with z | z
    · exact h.row q z
    · rw [z, List.length_set]
      exact rl
  · rw [List.length_set]
    rcases List.mem_or_eq_of_mem_set hq with z | z
    · exact h.an q z k hk
    · subst z
      rcases List.mem_or_eq_of_mem_set hk with z2 | z2
      · exact h.an r (List.mem_of_getElem? hr) k z2
      · rw [z2]
        exact ⟨hl, ha⟩
theorem asc_eq {l l' : List Int} (p : l'.Perm l) (h : l'.Pairwise (· < ·)) (k : l.Pairwise (· < ·)) : l' = l :=
  List.Perm.eq_of_pairwise (le := (· < ·)) (fun a b _ _ h1 h2 => absurd h1 (by omega)) h k p
theorem lt_of_le_nodup {l : List Int} (h : l.Pairwise (· ≤ ·)) (n : l.Nodup) : l.Pairwise (· < ·) := by
  refine List.Pairwise.imp (R := fun a b => a ≤ b ∧ a ≠ b) (fun {a b} z => by omega) ?_
  exact List.Pairwise.and h n
theorem filter_len {l : List Int} {x : Int} (h : x ∈ l) (h1 : 1 < l.length) (n : l.Nodup) : 0 < (l.filter fun y => decide (y ≠ x)).length := by
  refine List.length_pos_iff.mpr fun z => ?_
  have all : ∀ y ∈ l, y = x := fun y hy => by
    have := List.filter_eq_nil_iff.mp z y hy
    simpa using this
  match l, h1, n with
  | a :: b :: r, _, n =>
    have e1 := all a (by simp)
    have e2 := all b (by simp)
    have := (List.nodup_cons.mp n).1
    exact this (by rw [e1, e2]; simp)
def sp_answered (K : PySem.W.Frag) : Sp := fun vs H Q _ => ∃ x0 x1 x2 x3, vs = [x0, x1, x2, x3] ∧ ∃ (p : Pd) (i o : Int) (b : Addr) (l : List Int), PL K H x0 p ∧ x1 = .int i ∧ x2 = .int o ∧ 0 ≤ i ∧ i < p.mv.length ∧ 0 ≤ o ∧ o < p.m ∧ x3 = .ref b ∧ H b = some (.lst (l.map V.int)) ∧
  l ≠ [] ∧ l.Nodup ∧ (∀ x ∈ l, 0 ≤ x ∧ x < p.mv.length) ∧ ∀ v H' l', Same H H' → l'.Perm l → l'.Pairwise (· < ·) → PL K H' v { p with mv := LH.setAns p.mv i o l' } → Q v H'
theorem ok_answered {P : Program} {w : World} {K : PySem.W.Frag} {mg : Str → Option Value} {base : Heap} (T : Tx K mg) : Fn P w K mg base 6 (He.ga K "answered") (sp_answered K) := by
  obtain ⟨fd, F⟩ := T.d_answered
  have hb : Binds K fd ["plant", "place", "order", "answers"] [] := F.bindsN fun _ _ _ _ _ _ us hl => match us, hl with | [_, _, _, _], _ => rfl
  refine fn_def F sc_answered hb (fun vs H Q E h => by obtain ⟨_, _, _, _, rfl, _⟩ := h; rfl) fun cdv A outer s H vs Q E hr h => ⟨_, PSs.nox (pss_cons (ps_set (i := 4) sc_answered.nd rfl (by first | exact Or.inl rfl | exact Or.inr rfl) (pe_ix (kx_ix_tup (K := K)) (ce_prop (pv 0) T.pl_moves (ok_Plant_moves T).run (hr.mono (by decide))) (pv 1) (fun _ _ => rfl)))
      (pss_cons (ps_set (i := 4) sc_answered.nd rfl (by first | exact Or.inl rfl | exact Or.inr rfl) (ce_tup (kx_star (K := K) <| StX.pa_star (pe_slice (kx_sl (K := K)) (pv 4) po_none (po_some (pv 2))) (pa_cons (pe_callTy (kx_tuple (K := K)) rfl T.b_tuple boot_tuple (pa_cons (pe_callB cr_sortedI rfl T.b_sorted boot_sorted (pa_cons (pv 3) pa_nil)) pa_nil)) (kx_star (K := K) <| StX.pa_star (pe_slice (kx_sl (K := K)) (pv 4) (po_some (pe_op op_add (pv 2) pe_int)) po_none) pa_nil)))))
      (pss_one (ps_ret (ce_make T.mk_Plant (ok_Plant_init T) (hr.mono (by decide)) rfl T.g_Plant (pa_cons (ce_tup (kx_star (K := K) <| StX.pa_star (pe_slice (kx_sl (K := K)) (ce_prop (pv 0) T.pl_moves (ok_Plant_moves T).run (hr.mono (by decide))) po_none (po_some (pv 1))) (pa_cons (pv 4) (kx_star (K := K) <| StX.pa_star (pe_slice (kx_sl (K := K)) (ce_prop (pv 0) T.pl_moves (ok_Plant_moves T).run (hr.mono (by decide))) (po_some (pe_op op_add (pv 1) pe_int)) po_none) pa_nil)))) (pa_cons (ce_prop (pv 0) T.pl_bad (ok_Plant_bad T).run (hr.mono (by decide))) (pa_cons (ce_prop (pv 0) T.pl_goal (ok_Plant_goal T).run (hr.mono (by decide))) pa_nil)))))))), ?_⟩
  obtain ⟨x0, x1, x2, x3, rfl, h⟩ := h
  obtain ⟨p, i, o, b, l, hp, rfl, rfl, h0, h1, h2, h3, rfl, hb0, lne, lnd, lr, q⟩ := h
  obtain ⟨a, dx, fs, rfl, ha⟩ := hp.at_
  have ok := hp.ge
  have m3 := ok.wf.m3
  have n4 := ok.wf.n4
  refine ⟨_, rfl, a, _, dx, fs, rfl, rfl, ha, _, rfl, p, hp, fun v hm => ⟨_, rfl, ?_⟩⟩
  obtain ⟨a1, xs, row, r, rfl, e1, e2, e3, e4⟩ := hm.row h0 h1
  refine ⟨a1, xs, i, row, rfl, rfl, sqT e1, e2, ?_⟩
  obtain ⟨a2, ys, rfl, f1, f2⟩ := id e4
  have rl := ok.wf.len e3
  have yl := f2.1
  have hr := setAns_eq (o := o) (l := l) e3
  refine ⟨_, rfl, _, rfl, o, rfl, a2, ys, rfl, f1, fun c1 H1 hS1 hc1 => ⟨c1, _, rfl, .inl (sqT hc1), ?_⟩⟩
  refine ⟨_, rfl, b, l, rfl, sqL (hS1 _ _ hb0), fun l' p2 pm pw hp2 => ⟨p2, _, rfl, sqL upd_same, fun p3 H3 hp3 hS3 hq3 => ?_⟩⟩
  have hS2 : Same H1 (upd H1 p2 (.lst (l'.map V.int))) := same_new hp2
  have hSa := hS1.trans (hS2.trans hS3)
  refine ⟨_, rfl, _, rfl, _, _, rfl, rfl, _, rfl, a2, ys, rfl, hSa _ _ f1, fun c4 H4 hS4 hc4 => ⟨c4, _, rfl, .inl (sqT hc4), ?_⟩⟩
  have ylen : ys.length ≤ 3 := by omega
  have oy : o ≤ ys.length := by omega
  rw [cut_take h2 oy, cut_drop (by omega)]
  refine ⟨by simp; omega, fun p5 H5 hp5 hS5 hrow => ?_⟩
  have hSb := hSa.trans (hS4.trans hS5)
  have lpw : l'.Pairwise (· < ·) := lt_of_le_nodup pw (pm.nodup_iff.mpr lnd)
  have l'ne : l' ≠ [] := fun e => lne (by rw [e] at pm; exact (List.Perm.nil_eq pm).symm)
  have l'asc : Asc p.mv.length l' := ⟨lpw, fun x hx => lr x (pm.mem_iff.mp hx)⟩
  have hIT : IT H5 (.ref p3) l' := ⟨p3, rfl, (hS4.trans hS5) _ _ hq3⟩
  have hRT : RT H5 (.ref p5) (r.set o.toNat l') := by
    refine ⟨p5, _, rfl, hrow, ?_⟩
    have z := All2.splice (f2.mono fun x y h => IT.kp (Kp.of hSb) h) hIT (i := o.toNat) (by omega)
    have e : (o + 1).toNat = o.toNat + 1 := by omega
    rw [e]
    simpa using z
  have hp5 := hp.kpS hSb
  have ha5 := hSb _ _ ha
  refine ⟨_, rfl, a, _, dx, fs, rfl, rfl, ha5, _, rfl, p, hp5, fun v2 hm2 => ⟨_, rfl, i, rfl, ?_⟩⟩
  obtain ⟨b1, zs, rfl, g1, g2⟩ := hm2
  have zl := g2.1
  refine ⟨b1, zs, rfl, g1, fun c6 H6 hS6 hc6 => ⟨c6, _, rfl, .inl (sqT hc6), _, rfl, ?_⟩⟩
  have hp6 := hp5.kpS hS6
  have ha6 := hS6 _ _ ha5
  refine ⟨_, rfl, a, _, dx, fs, rfl, rfl, ha6, _, rfl, p, hp6, fun v3 hm3 => ⟨_, rfl, _, _, rfl, rfl, _, rfl, ?_⟩⟩
  obtain ⟨b2, ws, rfl, k1, k2⟩ := hm3
  have wl := k2.1
  refine ⟨b2, ws, rfl, k1, fun c7 H7 hS7 hc7 => ⟨c7, _, rfl, .inl (sqT hc7), ?_⟩⟩
  rw [cut_take h0 (by omega), cut_drop (by omega)]
  refine ⟨by simp; omega, fun p8 H8 hp8 hS8 hmv => ?_⟩
  have hSc := hSb.trans (hS6.trans (hS7.trans hS8))
  have hp8' := hp.kpS hSc
  have ha8 := hSc _ _ ha
  refine ⟨_, rfl, a, _, dx, fs, rfl, rfl, ha8, _, rfl, p, hp8', fun v4 hb4 => ?_⟩
  refine ⟨_, rfl, a, _, dx, fs, rfl, rfl, ha8, _, rfl, p, hp8', fun v5 hg5 => ?_⟩
  have hmt : MT H8 (.ref p8) (LH.setAns p.mv i o l') := by
    rw [setAns_eq e3]
    refine ⟨p8, _, rfl, hmv, ?_⟩
    have z := All2.splice2 (g2.mono fun x y h => RT.kp (Kp.of (hS6.trans (hS7.trans hS8))) h) (k2.mono fun x y h => RT.kp (Kp.of (hS7.trans hS8)) h) (hRT.kp (Kp.of (hS6.trans (hS7.trans hS8)))) (i := i.toNat) (by omega)
    have e : (i + 1).toNat = i.toNat + 1 := by omega
    rw [e]
    simpa using z
  have len : (LH.setAns p.mv i o l').length = p.mv.length := by rw [setAns_eq e3, List.length_set]
  refine make_plant (p := { p with mv := LH.setAns p.mv i o l' }) hmt hb4 hg5 ⟨ok.wf.set l'ne l'asc e3, by rw [len]; exact ok.b, by rw [len]; exact ok.g, ok.d⟩ fun x H9 hS9 hpl => ?_
  exact q _ _ l' (hSc.trans hS9) pm lpw hpl
def Pd.rem (p : Pd) (t : Tri) : Pd := { p with mv := LH.rem p.mv t }
def sp_Plant_sub (K : PySem.W.Frag) : Sp := fun vs H Q _ => ∃ x0 x1, vs = [x0, x1] ∧ ∃ p t, PL K H x0 p ∧ TR H x1 t ∧ InR p t ∧ t.2.2 ∈ LH.ans p.mv t.1 t.2.1 ∧ 1 < (LH.ans p.mv t.1 t.2.1).length ∧ ∀ v H', Same H H' → PL K H' v (p.rem t) → Q v H'
theorem PL.ansOk {p : Pd} (ok : p.Ok) {t : Tri} (r : InR p t) : LH.ans p.mv t.1 t.2.1 ≠ [] ∧ Asc p.mv.length (LH.ans p.mv t.1 t.2.1) := by
  have hi : t.1.toNat < p.mv.length := by have := r.a0; have := r.a1; omega
  have e := List.getElem?_eq_getElem hi
  have rl := ok.wf.len e
  have hj : t.2.1.toNat < (p.mv[t.1.toNat]).length := by have := r.b0; have := r.b1; omega
  have e2 := List.getElem?_eq_getElem hj
  rw [ans_of e e2]
  exact ok.wf.an _ (List.getElem_mem _) _ (List.getElem_mem _)
theorem ok_Plant_sub {P : Program} {w : World} {K : PySem.W.Frag} {mg : Str → Option Value} {base : Heap} (T : Tx K mg) : Fn P w K mg base 7 (He.ma K (He.ga K "Plant") "__sub__") (sp_Plant_sub K) := by
  obtain ⟨fd, F⟩ := T.d_Plant_sub
  have hb : Binds K fd ["self", "one"] [] := F.bindsN fun _ _ _ _ _ _ us hl => match us, hl with | [_, _], _ => rfl
  refine fn_def F sc_Plant_sub hb (fun vs H Q E h => by obtain ⟨_, _, rfl, _⟩ := h; rfl) fun cdv A outer s H vs Q E hr h => ⟨_, PSs.nox (pss_cons (ps_if (PW.pt (pw_or (pt_cmpR (op_ownNotIn T.m_contains (ok_Plant_contains T).run (hr.mono (by decide))) (pv 1) (pv 0) (by rfl)) (pw_or1 (pt_cmpR op_eq (pe_callB (cl_len (K := K)) rfl T.b_len boot_len (pa_cons (pe_ix (kx_ix_tup (K := K)) (pe_ix (kx_ix_tup (K := K)) (kx_fld (K := K) (pe_fld (pv 0) rfl)) (pe_ix (kx_ix_tup (K := K)) (pv 1) pe_int (fun _ _ => rfl)) (fun _ _ => rfl)) (pe_ix (kx_ix_tup (K := K)) (pv 1) pe_int (fun _ _ => rfl)) (fun _ _ => rfl)) pa_nil)) pe_int (nomark _))))) (pss_one ps_never) pss_nil)
      (pss_cons (ps_asg (pv 1) (pg_tup rfl (pgs_cons (pg_name (i := 2) sc_Plant_sub.nd rfl (by first | exact Or.inl rfl | exact Or.inr rfl)) (pgs_cons (pg_name (i := 3) sc_Plant_sub.nd rfl (by first | exact Or.inl rfl | exact Or.inr rfl)) (pgs_cons (pg_name (i := 4) sc_Plant_sub.nd rfl (by first | exact Or.inl rfl | exact Or.inr rfl)) pgs_nil)))))
      (pss_one (ps_ret (ce_call (ok_answered (P := P) (w := w) T) (hr.mono (by decide)) rfl T.g_answered (pa_cons (pv 0) (pa_cons (pv 2) (pa_cons (pv 3) (pa_cons (kx_lc (K := K) (ce_lc .t rfl sc_Plant_sub.nd (pe_ix (kx_ix_tup (K := K)) (pe_ix (kx_ix_tup (K := K)) (kx_fld (K := K) (pe_fld (pv 0) rfl)) (pv 2) (fun _ _ => rfl)) (pv 3) (fun _ _ => rfl)) (blkOk_by (own := [("own", 5)]) (N := n_Plant_sub) (sc := defScope s_Plant_sub) (by decide +kernel)) (fun _ _ _ _ _ => pg_name (i := 5) sc_Plant_sub.nd rfl (Or.inl rfl)) (fun _ _ _ _ _ => (pts_one (pt_cmpR op_ne (pv 5) (pv 4) (nomark _)))) (fun _ _ _ _ _ => (pv 5)))) pa_nil))))))))), ?_⟩
  obtain ⟨x0, x1, rfl, h⟩ := h
  obtain ⟨p, t, hp, ht, r, hin, h2, q⟩ := h
  obtain ⟨a, dx, fs, a1, xs, x, a2, ys, y, rfl, e0, e1, e2, e3, rfl, e4, e5, e6⟩ := hp.cell r.a0 r.a1 r.b0 r.b1
  obtain ⟨b, rfl, hb1⟩ := id ht
  obtain ⟨c, rfl, hc⟩ := e6
  obtain ⟨ane, aasc⟩ := PL.ansOk hp.ge r
  have n4 := hp.ge.wf.n4
  have al := Asc_len aasc
  refine ⟨_, rfl, _, rfl, a, dx, fs, rfl, e0, _, _, rfl, p, t, hp, ht, r, true, by rw [decide_eq_true hin], false, rfl, iteF ?_⟩
  refine ⟨_, rfl, _, _, _, _, _, rfl, e0, T.c_Plant, T.na_rows, e1, _, rfl, _, _, _, _, rfl, rfl, sqT hb1, at0, _, _, _, _, rfl, rfl, sqT e2, e3, _, rfl, _, _, _, _, rfl, rfl, sqT hb1, at1, _, _, _, _, rfl, rfl, sqT e4, e5, ?_⟩
  refine ⟨_, (LH.ans p.mv t.1 t.2.1).length, rfl, .inr ⟨_, sqT hc, by simp⟩, rfl, false, ?_, iteF ?_⟩
  · refine bl_false fun z => ?_
    injection z with z
    omega
  refine ⟨_, rfl, _, _, rfl, sqT hb1, rfl, _, _, rfl, _, _, rfl, _, _, rfl, rfl, ?_⟩
  refine ⟨_, rfl, _, rfl, _, rfl, _, rfl, _, _, _, _, _, rfl, e0, T.c_Plant, T.na_rows, e1, _, rfl, _, _, _, _, rfl, rfl, sqT e2, e3, _, rfl, _, _, _, _, rfl, rfl, sqT e4, e5, ?_⟩
  refine ⟨c, _, rfl, sqT hc, by simp; omega, by simp, fun k acc _ => acc = (((LH.ans p.mv t.1 t.2.1).take k).filter fun x => decide (x ≠ t.2.2)).map V.int, by simp, fun _ _ _ _ _ z => z, fun k x H2 acc hx hR hS => ?_, fun D acc H2 hD hS hd hR => ?_⟩
  · obtain ⟨i, hi, rfl⟩ := ints_at hx
    have hR : acc = _ := hR
    have ek : (LH.ans p.mv t.1 t.2.1).take (k + 1) = (LH.ans p.mv t.1 t.2.1).take k ++ [i] := by
      rw [List.take_add_one, hi]
      rfl
    refine mTT.mk ⟨_, rfl, _, rfl, rfl, _, rfl, ?_⟩
    by_cases e : i = t.2.2
    · rw [decide_eq_true (show V.int i = V.int t.2.2 by rw [e])]
      refine iteF ⟨fun _ _ e => e, ?_⟩
      dsimp only
      rw [hR, ek]
      simp [e]
    · rw [decide_eq_false (show ¬ V.int i = V.int t.2.2 from fun z => by injection z with z; exact e z)]
      refine iteT (mTE.mk ⟨_, rfl, fun _ _ e => e, ?_⟩)
      dsimp only
      rw [hR, ek]
      simp [e]
  · have hR : acc = _ := hR
    rw [List.take_of_length_le (by simp)] at hR
    subst hR
    refine ⟨_, _, _, _, rfl, p, t.1, t.2.1, D, _, hp.kpS hS, rfl, rfl, r.a0, r.a1, r.b0, r.b1, rfl, hd, ?_, ?_, ?_, fun v H' l' hS' pm pw hpl => ?_⟩
    · intro z
      have := filter_len hin h2 (aasc.1.imp fun h => by omega)
      rw [z] at this
      exact absurd this (by simp)
    · exact (aasc.1.imp fun h => by omega : (LH.ans p.mv t.1 t.2.1).Nodup).filter _
    · intro x hx
      exact aasc.2 x (List.mem_filter.mp hx).1
    · have e := asc_eq pm pw (aasc.1.filter _)
      subst e
      exact q v H' (hS.trans hS') hpl
def sp_Plant_add (K : PySem.W.Frag) : Sp := fun vs H Q _ => ∃ x0 x1, vs = [x0, x1] ∧ ∃ p t, PL K H x0 p ∧ TR H x1 t ∧ InR p t ∧ t.2.2 ∉ LH.ans p.mv t.1 t.2.1 ∧ ∀ v H' l', Same H H' → l'.Perm (LH.ans p.mv t.1 t.2.1 ++ [t.2.2]) → PL K H' v { p with mv := LH.setAns p.mv t.1 t.2.1 l' } → Q v H'
theorem ok_Plant_add {P : Program} {w : World} {K : PySem.W.Frag} {mg : Str → Option Value} {base : Heap} (T : Tx K mg) : Fn P w K mg base 7 (He.ma K (He.ga K "Plant") "__add__") (sp_Plant_add K) := by
  obtain ⟨fd, F⟩ := T.d_Plant_add
  have hb : Binds K fd ["self", "one"] [] := F.bindsN fun _ _ _ _ _ _ us hl => match us, hl with | [_, _], _ => rfl
  refine fn_def F sc_Plant_add hb (fun vs H Q E h => by obtain ⟨_, _, rfl, _⟩ := h; rfl) fun cdv A outer s H vs Q E hr h => ⟨_, PSs.nox (pss_cons (ps_if (PW.pt (pw_or (pt_not (pt_val (ce_call (ok_is_triple (P := P) (w := w) T) (hr.mono (by decide)) rfl T.g_is_triple (pa_cons (pv 0) (pa_cons (pv 1) pa_nil))))) (pw_or1 (pt_cmpR (op_ownIn T.m_contains (ok_Plant_contains T).run (hr.mono (by decide))) (pv 1) (pv 0) (by rfl))))) (pss_one ps_never) pss_nil)
      (pss_cons (ps_asg (pv 1) (pg_tup rfl (pgs_cons (pg_name (i := 2) sc_Plant_add.nd rfl (by first | exact Or.inl rfl | exact Or.inr rfl)) (pgs_cons (pg_name (i := 3) sc_Plant_add.nd rfl (by first | exact Or.inl rfl | exact Or.inr rfl)) (pgs_cons (pg_name (i := 4) sc_Plant_add.nd rfl (by first | exact Or.inl rfl | exact Or.inr rfl)) pgs_nil)))))
      (pss_one (ps_ret (ce_call (ok_answered (P := P) (w := w) T) (hr.mono (by decide)) rfl T.g_answered (pa_cons (pv 0) (pa_cons (pv 2) (pa_cons (pv 3) (pa_cons (ce_lst (kx_star (K := K) <| StX.pa_star (pe_ix (kx_ix_tup (K := K)) (pe_ix (kx_ix_tup (K := K)) (kx_fld (K := K) (pe_fld (pv 0) rfl)) (pv 2) (fun _ _ => rfl)) (pv 3) (fun _ _ => rfl)) (pa_cons (pv 4) pa_nil))) pa_nil))))))))), ?_⟩
  obtain ⟨x0, x1, rfl, h⟩ := h
  obtain ⟨p, t, hp, ht, r, hin, q⟩ := h
  obtain ⟨a, dx, fs, a1, xs, x, a2, ys, y, rfl, e0, e1, e2, e3, rfl, e4, e5, e6⟩ := hp.cell r.a0 r.a1 r.b0 r.b1
  obtain ⟨b, rfl, hb1⟩ := id ht
  obtain ⟨c, rfl, hc⟩ := e6
  obtain ⟨ane, aasc⟩ := PL.ansOk hp.ge r
  have n4 := hp.ge.wf.n4
  have al := Asc_len aasc
  refine ⟨_, rfl, _, rfl, _, _, rfl, p, t, hp, ht, r, true, rfl, iteF ?_⟩
  refine ⟨_, rfl, _, rfl, a, dx, fs, rfl, e0, _, _, rfl, p, t, hp, ht, r, false, by rw [decide_eq_false hin], false, rfl, iteF ?_⟩
  refine ⟨_, rfl, _, _, rfl, sqT hb1, rfl, _, _, rfl, _, _, rfl, _, _, rfl, rfl, ?_⟩
  refine ⟨_, rfl, _, rfl, _, rfl, _, rfl, _, _, _, _, _, rfl, e0, T.c_Plant, T.na_rows, e1, _, rfl, _, _, _, _, rfl, rfl, sqT e2, e3, _, rfl, _, _, _, _, rfl, rfl, sqT e4, e5, ?_⟩
  refine ⟨c, _, rfl, .inl (sqT hc), _, rfl, by simp; omega, fun D H2 hD hS hd => ?_⟩
  refine ⟨_, _, _, _, rfl, p, t.1, t.2.1, D, LH.ans p.mv t.1 t.2.1 ++ [t.2.2], hp.kpS hS, rfl, rfl, r.a0, r.a1, r.b0, r.b1, rfl, by rw [List.map_append]; exact hd, by simp, ?_, ?_, fun v H' l' hS' pm pw hpl => q v H' l' (hS.trans hS') pm hpl⟩
  · refine List.nodup_append.mpr ⟨aasc.1.imp fun h => by omega, by simp, fun x hx y hy e => ?_⟩
    rw [List.mem_singleton.mp hy] at e
    exact hin (e ▸ hx)
  · intro x hx
    rcases List.mem_append.mp hx with z | z
    · exact aasc.2 x z
    · rw [List.mem_singleton.mp z]
      exact ⟨r.c0, r.c1⟩
end Lh
set_option Elab.async false
set_option linter.all false
set_option maxRecDepth 100000
set_option maxHeartbeats 4000000
/-! The defs of beliefs. -/
namespace Lh
open PySem PySem.Spec PyProof.Rows L2
theorem flat_len {n : Nat} {f : Int → List Int} : ∀ {l : List Int}, (∀ y ∈ l, (f y).length ≤ n) → (l.flatMap f).length ≤ n * l.length
  | [], _ => by simp
  | y :: l, h => by
    have a := h y (List.mem_cons_self ..)
    have b := flat_len fun z m => h z (List.mem_cons_of_mem _ m)
    rw [List.flatMap_cons, List.length_append, List.length_cons, Nat.mul_succ]
    omega
def sp_led (K : PySem.W.Frag) : Sp := fun vs H Q _ => ∃ x0 x1 x2, vs = [x0, x1, x2] ∧ ∃ (p : Pd) (ps : List Int) (o : Int), PL K H x0 p ∧ IT H x1 ps ∧ Asc p.mv.length ps ∧ x2 = .int o ∧ 0 ≤ o ∧ o < p.m ∧
  ∀ v H' r, Same H H' → IT H' v r → Asc p.mv.length r → (ps ≠ [] → r ≠ []) → (∀ x, x ∈ r ↔ ∃ y, y ∈ ps ∧ x ∈ LH.ans p.mv y o) → Q v H'
theorem ok_led {P : Program} {w : World} {K : PySem.W.Frag} {mg : Str → Option Value} {base : Heap} (T : Tx K mg) : Fn P w K mg base 3 (He.ga K "led") (sp_led K) := by
  obtain ⟨fd, F⟩ := T.d_led
  have hb : Binds K fd ["plant", "places", "order"] [] := F.bindsN fun _ _ _ _ _ _ us hl => match us, hl with | [_, _, _], _ => rfl
  refine fn_def F sc_led hb (fun vs H Q E h => by obtain ⟨_, _, _, rfl, _⟩ := h; rfl) fun cdv A outer s H vs Q E hr h => ⟨_, PSs.nox (pss_one (ps_ret (pe_callTy (kx_tuple (K := K)) rfl T.b_tuple boot_tuple (pa_cons (pe_callB (cr_sortedSet rfl) rfl T.b_sorted boot_sorted (pa_cons (pe_callTy (cr_setI rfl .l) rfl T.b_set boot_set (pa_cons (ce_lc2 rfl sc_led.nd (pv 1) (blkOk_by (own := [("place", 3), ("answer", 4)]) (N := n_led) (sc := defScope s_led) (by decide +kernel)) (by decide) (fun _ _ _ _ _ => pg_name (i := 3) sc_led.nd rfl (Or.inl rfl)) (fun _ _ _ _ _ => (pe_ix (kx_ix_tup (K := K)) (pe_ix (kx_ix_tup (K := K)) (ce_prop (pv 0) T.pl_moves (ok_Plant_moves T).run (hr.mono (by decide))) (pv 3) (fun _ _ => rfl)) (pv 2) (fun _ _ => rfl))) (fun _ _ _ _ _ => pg_name (i := 4) sc_led.nd rfl (Or.inl rfl)) (fun _ _ _ _ _ => (pv 4))) pa_nil)) pa_nil)) pa_nil)))), ?_⟩
  obtain ⟨x0, x1, x2, rfl, h⟩ := h
  obtain ⟨p, ps, o, hp, ⟨b, rfl, hb1⟩, asc, rfl, h0, h1, q⟩ := h
  obtain ⟨a, dx, fs, rfl, ha⟩ := hp.at_
  have n4 := hp.ge.wf.n4
  have pl := Asc_len asc
  have inr : ∀ y ∈ ps, InR p (y, o, 0) := fun y hy => ⟨(asc.2 y hy).1, (asc.2 y hy).2, h0, h1, Int.le_refl _, by have := hp.ge.wf.n1; show (0 : Int) < _; omega⟩
  refine ⟨_, rfl, b, _, rfl, sqT hb1, by simp; omega, by simp, by simp, fun k acc => acc = ((ps.take k).flatMap fun y => LH.ans p.mv y o).map V.int, by simp, fun k x H2 acc hx hR hS => ?_, fun D acc H2 hD hS hd hlen hR => ?_⟩
  · obtain ⟨y, hy, rfl⟩ := ints_at hx
    have hmem := List.mem_of_getElem? hy
    obtain ⟨y0, y1⟩ := asc.2 y hmem
    refine mTE.mk ⟨_, rfl, a, _, dx, fs, rfl, rfl, hS _ _ ha, _, rfl, p, hp.kpS hS, fun v hm => ⟨_, rfl, ?_⟩⟩
    obtain ⟨a1, xs, row, r, rfl, e1, e2, e3, e4⟩ := hm.row y0 y1
    obtain ⟨a2, ys, c, l, rfl, f1, f2, f3, f4⟩ := e4.cell h0 (by rw [hp.ge.wf.len e3]; exact h1)
    obtain ⟨cc, rfl, hc⟩ := f4
    have el := ans_of e3 f3
    have al := Asc_len (PL.ansOk hp.ge (inr y hmem)).2
    refine ⟨a1, xs, y, _, rfl, rfl, sqT e1, e2, _, rfl, a2, ys, o, _, rfl, rfl, sqT f1, f2, cc, l.map V.int, rfl, fun H' k' => sqT (k' _ _ hc True.intro), ?_, fun _ _ e => e, fun m acc => acc = (((ps.take k).flatMap fun y => LH.ans p.mv y o) ++ l.take m).map V.int, ?_, fun acc h => ?_, fun m z H3 acc hz hR3 hS3 => ?_⟩
    · rw [List.length_map, ← el]
      have : (LH.ans p.mv (y, o, 0).1 (y, o, 0).2.1).length ≤ p.mv.length := al
      show (LH.ans p.mv y o).length ≤ 30
      simp only at this
      omega
    · dsimp only
      rw [List.take_zero, List.append_nil]
      exact hR
    · dsimp only at h ⊢
      rw [h, List.length_map, List.take_length, List.take_add_one, hy]
      simp [el]
    · obtain ⟨i, hi, rfl⟩ := ints_at hz
      refine mTE.mk ⟨_, rfl, fun _ _ e => e, ?_⟩
      dsimp only at hR3 ⊢
      rw [hR3, List.take_add_one, hi]
      simp
  · have hR : acc = _ := hR
    rw [List.length_map, List.take_length] at hR
    subst hR
    generalize hns : (ps.flatMap fun y => LH.ans p.mv y o) = ns at hd hlen
    have hmem : ∀ x, x ∈ ns ↔ ∃ y, y ∈ ps ∧ x ∈ LH.ans p.mv y o := fun x => by
      rw [← hns, List.mem_flatMap]
    have hnl : ns.length ≤ 900 := by simpa using hlen
    have hb9 : ∀ x ∈ ns, 0 ≤ x ∧ x < p.mv.length := fun x hx => by
      obtain ⟨y, hy, hxy⟩ := (hmem x).mp hx
      exact (PL.ansOk hp.ge (inr y hy)).2.2 x hxy
    refine ⟨D, ns, rfl, sqL hd, by omega, fun t c H3 hc ht hS3 hset => ?_⟩
    refine ⟨t, _, c, rfl, hset, ?_, fun ms p5 hpw hmm hlen2 hn5 => ?_⟩
    · have z := flat_len (n := 4) (f := fun y => LH.ans p.mv y o) (l := ps) fun y hy => by
        have : (LH.ans p.mv y o).length ≤ p.mv.length := Asc_len (PL.ansOk hp.ge (inr y hy)).2
        omega
      rw [hns] at z
      omega
    have hS5 : Same H3 (upd H3 p5 (.lst (ms.map V.int))) := same_new hn5
    refine ⟨p5, _, rfl, sqL upd_same, fun p6 H6 hn6 hS6 h6 => ?_⟩
    have hmm' : ∀ x, x ∈ ms ↔ x ∈ ns := fun x => by rw [hmm x]; simp
    refine q _ H6 ms (hS.trans (hS3.trans (hS5.trans hS6))) ⟨p6, rfl, h6⟩ ⟨hpw, fun x hx => hb9 x ((hmm' x).mp hx)⟩ (fun hne z => ?_) fun x => by rw [hmm' x, hmem x]
    obtain ⟨y, hy⟩ := List.exists_mem_of_ne_nil _ hne
    obtain ⟨x, hx⟩ := List.exists_mem_of_ne_nil _ (PL.ansOk hp.ge (inr y hy)).1
    have := (hmm' x).mpr ((hmem x).mpr ⟨y, hy, hx⟩)
    rw [z] at this
    exact nomatch this
end Lh
set_option Elab.async false
set_option linter.all false
set_option maxRecDepth 100000
set_option maxHeartbeats 4000000
/-! The defs of beliefs: behind a row, situations. -/
namespace Lh
open PySem PySem.Spec PyProof.Rows L2
theorem aft_congr {mv : Mv} {S S' : Int → Prop} (h : ∀ x, S x ↔ S' x) (r : List Int) (x : Int) : LH.aft mv S r x ↔ LH.aft mv S' r x :=
  ⟨LH.aft_mono (LH.Sub.refl mv) r S' S (fun x q => (h x).mp q) x, LH.aft_mono (LH.Sub.refl mv) r S S' (fun x q => (h x).mpr q) x⟩
def sp_after (K : PySem.W.Frag) : Sp := fun vs H Q _ => ∃ x0 x1 x2, vs = [x0, x1, x2] ∧ ∃ (p : Pd) (ps row : List Int), PL K H x0 p ∧ IT H x1 ps ∧ Asc p.mv.length ps ∧ IT H x2 row ∧ (∀ o ∈ row, 0 ≤ o ∧ o < p.m) ∧
  ∀ v H' r, Same H H' → IT H' v r → Asc p.mv.length r → (ps ≠ [] → r ≠ []) → (∀ x, x ∈ r ↔ LH.aft p.mv (fun x => x ∈ ps) row x) → Q v H'
theorem ok_after {P : Program} {w : World} {K : PySem.W.Frag} {mg : Str → Option Value} {base : Heap} (T : Tx K mg) : Fn P w K mg base 4 (He.ga K "after") (sp_after K) := by
  obtain ⟨fd, F⟩ := T.d_after
  have hb : Binds K fd ["plant", "places", "row"] [] := F.bindsN fun _ _ _ _ _ _ us hl => match us, hl with | [_, _, _], _ => rfl
  refine fn_def F sc_after hb (fun vs H Q E h => by obtain ⟨_, _, _, rfl, _⟩ := h; rfl) fun cdv A outer s H vs Q E hr h => ⟨_, PSs.nox (pss_cons (ps_for PassesOwn.never rfl (pi_tup (pv 2)) (pg_name (i := 3) sc_after.nd rfl (by first | exact Or.inl rfl | exact Or.inr rfl)) (pss_one (ps_set (i := 1) sc_after.nd rfl (by first | exact Or.inl rfl | exact Or.inr rfl) (ce_call (ok_led (P := P) (w := w) T) (hr.mono (by decide)) rfl T.g_led (pa_cons (pv 0) (pa_cons (pv 1) (pa_cons (pv 3) pa_nil)))))))
      (pss_one (ps_ret (pv 1)))), ?_⟩
  obtain ⟨x0, x1, x2, rfl, h⟩ := h
  obtain ⟨p, ps, row, hp, hi, asc, ⟨b, rfl, hb2⟩, hrow, q⟩ := h
  refine ⟨_, rfl, b, rfl, ⟨_, sqT hb2⟩, for_tup (xs := row.map V.int) (fun k σ H3 => Same H H3 ∧ ∃ v cs z, σ = [some x0, some v, some (.ref b), z] ∧ IT H3 v cs ∧ Asc p.mv.length cs ∧ (ps ≠ [] → cs ≠ []) ∧ ∀ x, LH.aft p.mv (fun x => x ∈ cs) (row.drop k) x ↔ LH.aft p.mv (fun x => x ∈ ps) row x)
    ⟨fun _ _ e => e, x1, ps, none, rfl, hi, asc, fun z => z, fun x => by simp⟩ (fun k σ H3 _ z => sqT (z.1 _ _ hb2)) (fun k x σ H3 hx ⟨hS3, v, cs, z, hσ, hv, hasc, hne, haft⟩ => ?_) fun σ H3 ⟨hS3, v, cs, z, hσ, hv, hasc, hne, haft⟩ => ?_⟩
  · subst hσ
    obtain ⟨o, ho, rfl⟩ := ints_at hx
    obtain ⟨o0, o1⟩ := hrow o (List.mem_of_getElem? ho)
    refine ⟨_, rfl, _, rfl, _, rfl, _, _, _, rfl, p, cs, o, hp.kpS hS3, hv, hasc, rfl, o0, o1, fun v' H' r hS' hv' hasc' hne' hmem => ?_⟩
    refine ⟨hS3.trans hS', v', r, _, rfl, hv', hasc', fun z => hne' (hne z), fun x => ?_⟩
    rw [← haft x]
    have e : row.drop k = o :: row.drop (k + 1) := by
      have hl := (List.getElem?_eq_some_iff.mp ho).1
      rw [List.drop_eq_getElem_cons hl]
      congr 1
      exact (List.getElem?_eq_some_iff.mp ho).2
    rw [e]
    exact aft_congr (fun x => hmem x) _ x
  · subst hσ
    refine ⟨_, rfl, ?_⟩
    refine q v H3 cs hS3 hv hasc hne fun x => ?_
    rw [← haft x, List.length_map, List.drop_length]
    exact Iff.rfl
/-- a situation of the plant, its row at most L long -/
structure SitOk (p : Pd) (L : Nat) (s : Sit) : Prop where
  a : 0 ≤ s.1
  b : s.1 < p.mv.length
  r : ∀ o ∈ s.2, 0 ≤ o ∧ o < p.m
  l : s.2.length ≤ L
def sp_is_row (K : PySem.W.Frag) : Sp := fun vs H Q _ => ∃ x0 x1 x2, vs = [x0, x1, x2] ∧ ∃ (p : Pd) (row : List Int) (L : Nat), PL K H x0 p ∧ IT H x1 row ∧ x2 = .int L ∧ (∀ o ∈ row, 0 ≤ o ∧ o < p.m) ∧ row.length ≤ L ∧ L ≤ 8 ∧ ∀ H', Same H H' → Q (.bl true) H'
theorem ok_is_row {P : Program} {w : World} {K : PySem.W.Frag} {mg : Str → Option Value} {base : Heap} (T : Tx K mg) : Fn P w K mg base 4 (He.ga K "is_row") (sp_is_row K) := by
  obtain ⟨fd, F⟩ := T.d_is_row
  have hb : Binds K fd ["plant", "thing", "most"] [] := F.bindsN fun _ _ _ _ _ _ us hl => match us, hl with | [_, _, _], _ => rfl
  refine fn_def F sc_is_row hb (fun vs H Q E h => by obtain ⟨_, _, _, rfl, _⟩ := h; rfl) fun cdv A outer s H vs Q E hr h => ⟨_, PSs.nox (pss_one (ps_ret (pe_and (pe_callB (kx_isi (K := K)) rfl T.b_isinstance boot_isinstance (pa_cons (pv 1) (pa_cons (pe_bltn (v := .ty "tuple") (by rfl) T.b_tuple boot_tuple rfl) pa_nil))) (pe_and (pe_cmpR op_le (pe_callB (cl_len (K := K)) rfl T.b_len boot_len (pa_cons (pv 1) pa_nil)) (pv 2) (nomark _)) (pe_one (pe_callB (kx_all (K := K) rfl) rfl T.b_all boot_all (pa_cons (kx_lc (K := K) (ce_lc .t rfl sc_is_row.nd (pv 1) (blkOk_by (own := [("one", 3)]) (N := n_is_row) (sc := defScope s_is_row) (by decide +kernel)) (fun _ _ _ _ _ => pg_name (i := 3) sc_is_row.nd rfl (Or.inl rfl)) (fun _ _ _ _ _ => pts_nil) (fun _ _ _ _ _ => (ce_call (ok_is_order (P := P) (w := w) T) (hr.mono (by decide)) rfl T.g_is_order (pa_cons (pv 0) (pa_cons (pv 3) pa_nil)))))) pa_nil))))))), ?_⟩
  obtain ⟨x0, x1, x2, rfl, h⟩ := h
  obtain ⟨p, row, L, hp, ⟨b, rfl, hb2⟩, rfl, hr2, h1, h2, q⟩ := h
  refine ⟨_, rfl, _, _, _, _, true, rfl, .ty "tuple", ty_tup hb2, kit_tt, true, rfl, iteT ?_⟩
  refine ⟨_, rfl, _, row.length, rfl, .inr ⟨_, sqT hb2, by simp⟩, _, rfl, row.length, L, rfl, rfl, true, bl_true (by omega), iteT ?_⟩
  refine ⟨_, rfl, b, _, rfl, sqT hb2, by simp; omega, by simp, fun k acc _ => acc = (List.replicate k true).map V.bl, rfl, fun _ _ _ _ _ z => z, fun k x H2 acc hx hR hS => mTT.mk (yesT ?_), fun D acc H2 hD hS hd hR => ?_⟩
  · obtain ⟨o, ho, rfl⟩ := ints_at hx
    refine mTE.mk ⟨_, rfl, _, rfl, _, _, rfl, p, o, hp.kpS hS, rfl, ?_⟩
    rw [bl_true (hr2 o (List.mem_of_getElem? ho))]
    exact rep_step hR
  · have hR : acc = _ := hR
    subst hR
    refine ⟨D, _, rfl, sqL hd, ?_⟩
    rw [all_rep]
    exact q _ hS
def sp_is_situation (K : PySem.W.Frag) : Sp := fun vs H Q _ => ∃ x0 x1 x2, vs = [x0, x1, x2] ∧ ∃ (p : Pd) (s : Sit) (L : Nat), PL K H x0 p ∧ ST H x1 s ∧ x2 = .int L ∧ SitOk p L s ∧ L ≤ 8 ∧ ∀ H', Same H H' → Q (.bl true) H'
theorem ok_is_situation {P : Program} {w : World} {K : PySem.W.Frag} {mg : Str → Option Value} {base : Heap} (T : Tx K mg) : Fn P w K mg base 5 (He.ga K "is_situation") (sp_is_situation K) := by
  obtain ⟨fd, F⟩ := T.d_is_situation
  have hb : Binds K fd ["plant", "thing", "most"] [] := binds_dfl F (fun e => List.cons_ne_nil _ _ e) fun _ _ _ _ _ _ _ us its hl hd => match us, its, hl, hd with | [_, _, _], [_], _, _ => ⟨_, rfl, rfl⟩
  refine fn_def F sc_is_situation hb (fun vs H Q E h => by obtain ⟨_, _, _, rfl, _⟩ := h; rfl) fun cdv A outer s H vs Q E hr h => ⟨_, PSs.nox (pss_cons (ps_if (PW.pt (pw_or (pt_not (pt_val (pe_callB (kx_isi (K := K)) rfl T.b_isinstance boot_isinstance (pa_cons (pv 1) (pa_cons (pe_bltn (v := .ty "tuple") (by rfl) T.b_tuple boot_tuple rfl) pa_nil))))) (pw_or1 (pt_cmpR op_ne (pe_callB (cl_len (K := K)) rfl T.b_len boot_len (pa_cons (pv 1) pa_nil)) pe_int (nomark _))))) (pss_one (ps_ret pe_bl)) pss_nil)
      (pss_one (ps_ret (pe_and (ce_call (ok_is_place (P := P) (w := w) T) (hr.mono (by decide)) rfl T.g_is_place (pa_cons (pv 0) (pa_cons (pe_ix (kx_ix_tup (K := K)) (pv 1) pe_int (fun _ _ => rfl)) pa_nil))) (pe_one (ce_call (ok_is_row (P := P) (w := w) T) (hr.mono (by decide)) rfl T.g_is_row (pa_cons (pv 0) (pa_cons (pe_ix (kx_ix_tup (K := K)) (pv 1) pe_int (fun _ _ => rfl)) (pa_cons (pv 2) pa_nil))))))))), ?_⟩
  obtain ⟨x0, x1, x2, rfl, h⟩ := h
  obtain ⟨p, s, L, hp, ⟨a, r, rfl, ha, hi⟩, rfl, ok, hL, q⟩ := h
  refine ⟨_, rfl, _, _, _, _, true, rfl, .ty "tuple", ty_tup ha, kit_tt, true, rfl, iteF ?_⟩
  refine ⟨_, rfl, _, 2, rfl, .inr ⟨_, sqT ha, rfl⟩, rfl, false, rfl, iteF ?_⟩
  refine ⟨_, rfl, _, rfl, _, _, _, _, rfl, rfl, sqT ha, at0, _, _, rfl, p, s.1, hp, rfl, true, by rw [decide_eq_true (show 0 ≤ s.1 ∧ s.1 < p.mv.length from ⟨ok.a, ok.b⟩)], iteT ?_⟩
  exact ⟨_, rfl, _, rfl, _, _, _, _, rfl, rfl, sqT ha, at1, _, rfl, _, _, _, rfl, p, s.2, L, hp, hi, rfl, ok.r, ok.l, hL, q⟩
def sp_need_situation (K : PySem.W.Frag) : Sp := fun vs H Q _ => ∃ x0 x1 x2, vs = [x0, x1, x2] ∧ ∃ (p : Pd) (s : Sit) (L : Nat), PL K H x0 p ∧ ST H x1 s ∧ x2 = .int L ∧ SitOk p L s ∧ L ≤ 8 ∧ ∀ H', Same H H' → Q .non H'
theorem ok_need_situation {P : Program} {w : World} {K : PySem.W.Frag} {mg : Str → Option Value} {base : Heap} (T : Tx K mg) : Fn P w K mg base 6 (He.ga K "need_situation") (sp_need_situation K) := by
  obtain ⟨fd, F⟩ := T.d_need_situation
  have hb : Binds K fd ["plant", "thing", "most"] [] := binds_dfl F (fun e => List.cons_ne_nil _ _ e) fun _ _ _ _ _ _ _ us its hl hd => match us, its, hl, hd with | [_, _, _], [_], _, _ => ⟨_, rfl, rfl⟩
  refine fn_def F sc_need_situation hb (fun vs H Q E h => by obtain ⟨_, _, _, rfl, _⟩ := h; rfl) fun cdv A outer s H vs Q E hr h => ⟨_, PSs.nox (pss_one (ps_if (pt_not (pt_val (ce_call (ok_is_situation (P := P) (w := w) T) (hr.mono (by decide)) rfl T.g_is_situation (pa_cons (pv 0) (pa_cons (pv 1) (pa_cons (pv 2) pa_nil)))))) (pss_one ps_never) pss_nil)), ?_⟩
  obtain ⟨x0, x1, x2, rfl, h⟩ := h
  obtain ⟨p, s, L, hp, hs, rfl, ok, hL, q⟩ := h
  exact ⟨_, rfl, _, rfl, _, rfl, _, _, _, rfl, p, s, L, hp, hs, rfl, ok, hL, fun H' hS => ⟨true, rfl, iteF (q H' hS)⟩⟩
theorem asc_one {n : Nat} {x : Int} (h0 : 0 ≤ x) (h1 : x < n) : Asc n [x] := ⟨by simp, fun y hy => by rw [List.mem_singleton.mp hy]; exact ⟨h0, h1⟩⟩
def sp_stands (K : PySem.W.Frag) : Sp := fun vs H Q _ => ∃ x0 x1, vs = [x0, x1] ∧ ∃ (p : Pd) (s : Sit) (L : Nat), PL K H x0 p ∧ ST H x1 s ∧ SitOk p L s ∧
  ∀ v H' r, Same H H' → IT H' v r → Asc p.mv.length r → r ≠ [] → (∀ x, x ∈ r ↔ LH.stand p.mv s x) → Q v H'
theorem ok_stands {P : Program} {w : World} {K : PySem.W.Frag} {mg : Str → Option Value} {base : Heap} (T : Tx K mg) : Fn P w K mg base 5 (He.ga K "stands") (sp_stands K) := by
  obtain ⟨fd, F⟩ := T.d_stands
  have hb : Binds K fd ["plant", "situation"] [] := F.bindsN fun _ _ _ _ _ _ us hl => match us, hl with | [_, _], _ => rfl
  refine fn_def F sc_stands hb (fun vs H Q E h => by obtain ⟨_, _, rfl, _⟩ := h; rfl) fun cdv A outer s H vs Q E hr h => ⟨_, PSs.nox (pss_one (ps_ret (ce_call (ok_after (P := P) (w := w) T) (hr.mono (by decide)) rfl T.g_after (pa_cons (pv 0) (pa_cons (ce_tup (pa_cons (pe_ix (kx_ix_tup (K := K)) (pv 1) pe_int (fun _ _ => rfl)) pa_nil)) (pa_cons (pe_ix (kx_ix_tup (K := K)) (pv 1) pe_int (fun _ _ => rfl)) pa_nil)))))), ?_⟩
  obtain ⟨x0, x1, rfl, h⟩ := h
  obtain ⟨p, s, L, hp, ⟨a, r, rfl, ha, hi⟩, ok, q⟩ := h
  refine ⟨_, rfl, _, rfl, _, _, _, _, rfl, rfl, sqT ha, at0, by simp, fun t H2 ht hS2 ht2 => ?_⟩
  refine ⟨_, rfl, _, _, _, _, rfl, rfl, sqT (hS2 _ _ ha), at1, _, _, _, rfl, p, [s.1], s.2, hp.kpS hS2, ⟨t, rfl, ht2⟩, asc_one ok.a ok.b, hi.kp (Kp.of hS2), ok.r, fun v H' r hS' hv hasc hne hmem => ?_⟩
  refine q v H' r (hS2.trans hS') hv hasc (hne (by simp)) fun x => ?_
  rw [hmem x]
  exact aft_congr (fun x => by simp) _ x
theorem all_map {α : Type} (f : α → Bool) : ∀ l : List α, (l.map f).all id = l.all f
  | [] => rfl
  | a :: l => by
    rw [List.map_cons, List.all_cons, List.all_cons, all_map f l]
    rfl
def sp_are_clear (K : PySem.W.Frag) : Sp := fun vs H Q _ => ∃ x0 x1, vs = [x0, x1] ∧ ∃ (p : Pd) (ps : List Int), PL K H x0 p ∧ IT H x1 ps ∧ Asc p.mv.length ps ∧ ∀ H', Same H H' → Q (.bl (decide (∀ x ∈ ps, x ∉ p.bad))) H'
theorem ok_are_clear {P : Program} {w : World} {K : PySem.W.Frag} {mg : Str → Option Value} {base : Heap} (T : Tx K mg) : Fn P w K mg base 3 (He.ga K "are_clear") (sp_are_clear K) := by
  obtain ⟨fd, F⟩ := T.d_are_clear
  have hb : Binds K fd ["plant", "places"] [] := F.bindsN fun _ _ _ _ _ _ us hl => match us, hl with | [_, _], _ => rfl
  refine fn_def F sc_are_clear hb (fun vs H Q E h => by obtain ⟨_, _, rfl, _⟩ := h; rfl) fun cdv A outer s H vs Q E hr h => ⟨_, PSs.nox (pss_one (ps_ret (pe_callB (kx_all (K := K) rfl) rfl T.b_all boot_all (pa_cons (kx_lc (K := K) (ce_lc .t rfl sc_are_clear.nd (pv 1) (blkOk_by (own := [("place", 2)]) (N := n_are_clear) (sc := defScope s_are_clear) (by decide +kernel)) (fun _ _ _ _ _ => pg_name (i := 2) sc_are_clear.nd rfl (Or.inl rfl)) (fun _ _ _ _ _ => pts_nil) (fun _ _ _ _ _ => (pe_cmpR (kx_notIn (K := K)) (pv 2) (ce_prop (pv 0) T.pl_bad (ok_Plant_bad T).run (hr.mono (by decide))) (by rfl))))) pa_nil)))), ?_⟩
  obtain ⟨x0, x1, rfl, h⟩ := h
  obtain ⟨p, ps, hp, ⟨b, rfl, hb2⟩, asc, q⟩ := h
  obtain ⟨a, dx, fs, rfl, ha⟩ := hp.at_
  have n4 := hp.ge.wf.n4
  have pl := Asc_len asc
  refine ⟨_, rfl, b, _, rfl, sqT hb2, by simp; omega, by simp, fun k acc _ => acc = ((ps.take k).map fun x => decide (x ∉ p.bad)).map V.bl, by simp, fun _ _ _ _ _ z => z, fun k x H2 acc hx hR hS => mTT.mk (yesT ?_), fun D acc H2 hD hS hd hR => ?_⟩
  · obtain ⟨o, ho, rfl⟩ := ints_at hx
    have hR : acc = _ := hR
    refine mTE.mk ⟨_, rfl, _, rfl, a, _, dx, fs, rfl, rfl, hS _ _ ha, _, rfl, p, hp.kpS hS, fun v hv => ?_⟩
    obtain ⟨c, rfl, hc⟩ := hv
    refine ⟨c, _, rfl, .inr (sqT hc), rfl, flat_ints _, fun _ _ e => e, ?_⟩
    dsimp only
    rw [hR, List.take_add_one, ho, inV_ints]
    simp
  · have hR : acc = _ := hR
    rw [List.length_map, List.take_length] at hR
    subst hR
    refine ⟨D, _, rfl, sqL hd, ?_⟩
    rw [all_map]
    have e : (ps.all fun x => decide (x ∉ p.bad)) = decide (∀ x ∈ ps, x ∉ p.bad) := by
      by_cases h : ∀ x ∈ ps, x ∉ p.bad
      · rw [decide_eq_true h, List.all_eq_true]
        exact fun x hx => decide_eq_true (h x hx)
      · rw [decide_eq_false h]
        exact Bool.eq_false_iff.mpr fun z => h fun x hx => of_decide_eq_true (List.all_eq_true.mp z x hx)
    rw [e]
    exact q _ hS
def sp_is_clear (K : PySem.W.Frag) : Sp := fun vs H Q _ => ∃ x0 x1, vs = [x0, x1] ∧ ∃ (p : Pd) (s : Sit) (L : Nat), PL K H x0 p ∧ ST H x1 s ∧ SitOk p L s ∧ ∀ b H', Same H H' → (b = true ↔ LH.Clear p.mv p.bad s) → Q (.bl b) H'
theorem ok_is_clear {P : Program} {w : World} {K : PySem.W.Frag} {mg : Str → Option Value} {base : Heap} (T : Tx K mg) : Fn P w K mg base 6 (He.ga K "is_clear") (sp_is_clear K) := by
  obtain ⟨fd, F⟩ := T.d_is_clear
  have hb : Binds K fd ["plant", "situation"] [] := F.bindsN fun _ _ _ _ _ _ us hl => match us, hl with | [_, _], _ => rfl
  refine fn_def F sc_is_clear hb (fun vs H Q E h => by obtain ⟨_, _, rfl, _⟩ := h; rfl) fun cdv A outer s H vs Q E hr h => ⟨_, PSs.nox (pss_one (ps_ret (ce_call (ok_are_clear (P := P) (w := w) T) (hr.mono (by decide)) rfl T.g_are_clear (pa_cons (pv 0) (pa_cons (ce_call (ok_stands (P := P) (w := w) T) (hr.mono (by decide)) rfl T.g_stands (pa_cons (pv 0) (pa_cons (pv 1) pa_nil))) pa_nil))))), ?_⟩
  obtain ⟨x0, x1, rfl, h⟩ := h
  obtain ⟨p, s, L, hp, hs, ok, q⟩ := h
  refine ⟨_, rfl, _, rfl, _, rfl, _, _, rfl, p, s, L, hp, hs, ok, fun v H' r hS' hv hasc hne hmem => ?_⟩
  refine ⟨_, _, rfl, p, r, hp.kpS hS', hv, hasc, fun H2 hS2 => q _ H2 (hS'.trans hS2) ?_⟩
  rw [decide_eq_true_iff]
  exact ⟨fun z x hx => z x ((hmem x).mpr hx), fun z x hx => z x ((hmem x).mp hx)⟩
end Lh
set_option Elab.async false
set_option linter.all false
set_option maxRecDepth 100000
set_option maxHeartbeats 4000000
/-! The defs of news: numbers, classes. -/
namespace Lh
open PySem PySem.Spec PyProof.Rows L2
theorem nat_in {n : Nat} (h : n ≤ 4) : decide ((0 : Int) ≤ n ∧ (n : Int) ≤ 4) = true := decide_eq_true (by omega)
def sp_need_number (K : PySem.W.Frag) : Sp := fun vs H Q _ => ∃ x0 x1 x2, vs = [x0, x1, x2] ∧ ∃ n : Nat, x0 = .int n ∧ x1 = .int 0 ∧ x2 = .int 4 ∧ n ≤ 4 ∧ Q .non H
theorem ok_need_number {P : Program} {w : World} {K : PySem.W.Frag} {mg : Str → Option Value} {base : Heap} (T : Tx K mg) : Fn P w K mg base 2 (He.ga K "need_number") (sp_need_number K) := by
  obtain ⟨fd, F⟩ := T.d_need_number
  have hb : Binds K fd ["thing", "low", "high"] [] := F.bindsN fun _ _ _ _ _ _ us hl => match us, hl with | [_, _, _], _ => rfl
  refine fn_def F sc_need_number hb (fun vs H Q E h => by obtain ⟨_, _, _, rfl, _⟩ := h; rfl) fun cdv A outer s H vs Q E hr h => ⟨_, PSs.nox (pss_one (ps_if (pt_not (pt_val (ce_call (ok_is_between (P := P) (w := w) T) (hr.mono (by decide)) rfl T.g_is_between (pa_cons (pv 0) (pa_cons (pv 1) (pa_cons (pv 2) pa_nil)))))) (pss_one ps_never) pss_nil)), ?_⟩
  obtain ⟨x0, x1, x2, rfl, h⟩ := h
  obtain ⟨n, rfl, rfl, rfl, h4, q⟩ := h
  exact ⟨_, rfl, _, rfl, _, rfl, _, _, _, rfl, n, 0, 4, rfl, rfl, rfl, true, by rw [nat_in h4], iteF q⟩
def sp_numbers_of (K : PySem.W.Frag) : Sp := fun vs H Q _ => ∃ x0 x1, vs = [x0, x1] ∧ ∃ a b : Nat, x0 = .int a ∧ x1 = .int b ∧ a + b ≤ 4 ∧ ∀ t H', Same H H' → H t = none → H' t = some (.tup [.int a, .int b]) → Q (.ref t) H'
theorem ok_numbers_of {P : Program} {w : World} {K : PySem.W.Frag} {mg : Str → Option Value} {base : Heap} (T : Tx K mg) : Fn P w K mg base 3 (He.ga K "numbers_of") (sp_numbers_of K) := by
  obtain ⟨fd, F⟩ := T.d_numbers_of
  have hb : Binds K fd ["beats", "most"] [] := F.bindsN fun _ _ _ _ _ _ us hl => match us, hl with | [_, _], _ => rfl
  refine fn_def F sc_numbers_of hb (fun vs H Q E h => by obtain ⟨_, _, rfl, _⟩ := h; rfl) fun cdv A outer s H vs Q E hr h => ⟨_, PSs.nox (pss_cons (ps_expr (ce_call (ok_need_number (P := P) (w := w) T) (hr.mono (by decide)) rfl T.g_need_number (pa_cons (pv 0) (pa_cons pe_int (pa_cons (ce_gi rfl T.i_MOST) pa_nil)))))
      (pss_cons (ps_expr (ce_call (ok_need_number (P := P) (w := w) T) (hr.mono (by decide)) rfl T.g_need_number (pa_cons (pv 1) (pa_cons pe_int (pa_cons (ce_gi rfl T.i_MOST) pa_nil)))))
      (pss_cons (ps_if (pt_cmpR op_gt (pe_op op_add (pv 0) (pv 1)) (ce_gi rfl T.i_MOST) (nomark _)) (pss_one ps_never) pss_nil)
      (pss_one (ps_ret (ce_tup (pa_cons (pv 0) (pa_cons (pv 1) pa_nil)))))))), ?_⟩
  obtain ⟨x0, x1, rfl, h⟩ := h
  obtain ⟨a, b, rfl, rfl, h4, q⟩ := h
  refine ⟨_, rfl, _, _, _, rfl, a, rfl, rfl, rfl, by omega, ?_⟩
  refine ⟨_, rfl, _, _, _, rfl, b, rfl, rfl, rfl, by omega, ?_⟩
  refine ⟨_, rfl, _, rfl, a, b, rfl, rfl, a + b, 4, rfl, rfl, false, bl_false (by omega), iteF ?_⟩
  exact ⟨_, rfl, _, rfl, by simp, fun t H' ht hS ht2 => q t H' hS ht ht2⟩
def sp_News_late (K : PySem.W.Frag) : Sp := fun vs H Q _ => ∃ x0, vs = [x0] ∧ ∃ a b, NW K H x0 a b ∧ Q (.int a) H
theorem ok_News_late {P : Program} {w : World} {K : PySem.W.Frag} {mg : Str → Option Value} {base : Heap} (T : Tx K mg) : Fn P w K mg base 1 (gAd K "News" "late") (sp_News_late K) := by
  obtain ⟨fd, F⟩ := T.d_News_late
  have hb : Binds K fd ["self"] [] := F.bindsN fun _ _ _ _ _ _ us hl => match us, hl with | [_], _ => rfl
  refine fn_def F sc_News_late hb (fun vs H Q E h => by obtain ⟨_, rfl, _⟩ := h; rfl) fun cdv A outer s H vs Q E hr h => ⟨_, PSs.nox (pss_one (ps_ret (pe_ix (kx_ix_tup (K := K)) (kx_fld (K := K) (pe_fld (pv 0) rfl)) pe_int (fun _ _ => rfl)))), ?_⟩
  obtain ⟨x0, rfl, h⟩ := h
  obtain ⟨a, b, ⟨_, ad, C, dx, t, rfl, hC, ha, ht⟩, q⟩ := h
  exact ⟨_, rfl, _, _, _, _, _, rfl, ha, T.ncl hC, T.nnu hC, rfl, t, _, 0, _, rfl, rfl, sqT ht, at0, q⟩
def sp_News_lost (K : PySem.W.Frag) : Sp := fun vs H Q _ => ∃ x0, vs = [x0] ∧ ∃ a b, NW K H x0 a b ∧ Q (.int b) H
theorem ok_News_lost {P : Program} {w : World} {K : PySem.W.Frag} {mg : Str → Option Value} {base : Heap} (T : Tx K mg) : Fn P w K mg base 1 (gAd K "News" "lost") (sp_News_lost K) := by
  obtain ⟨fd, F⟩ := T.d_News_lost
  have hb : Binds K fd ["self"] [] := F.bindsN fun _ _ _ _ _ _ us hl => match us, hl with | [_], _ => rfl
  refine fn_def F sc_News_lost hb (fun vs H Q E h => by obtain ⟨_, rfl, _⟩ := h; rfl) fun cdv A outer s H vs Q E hr h => ⟨_, PSs.nox (pss_one (ps_ret (pe_ix (kx_ix_tup (K := K)) (kx_fld (K := K) (pe_fld (pv 0) rfl)) pe_int (fun _ _ => rfl)))), ?_⟩
  obtain ⟨x0, rfl, h⟩ := h
  obtain ⟨a, b, ⟨_, ad, C, dx, t, rfl, hC, ha, ht⟩, q⟩ := h
  exact ⟨_, rfl, _, _, _, _, _, rfl, ha, T.ncl hC, T.nnu hC, rfl, t, _, 1, _, rfl, rfl, sqT ht, at1, q⟩
theorem NW.at_ {K : PySem.W.Frag} {H : Hp} {v : V} {a b : Nat} (h : NW K H v a b) : ∃ ad C dx fs, v = .ref ad ∧ NC K C ∧ H ad = some (.ins C dx fs) := let ⟨_, ad, C, dx, _, e, c, q, _⟩ := h; ⟨ad, C, dx, _, e, c, q⟩
def spInit (C : PySem.W.Frag → Addr) (K : PySem.W.Frag) (ns : List V → Nat × Nat → Prop) : Sp := fun vs H Q _ => ∃ x0 xs, vs = x0 :: xs ∧ ∃ (o dx : Addr) (n : Nat × Nat), x0 = .ref o ∧ H o = some (.ins (C K) dx []) ∧ ns xs n ∧ n.1 + n.2 ≤ 4 ∧
  ∀ H' t, (∀ b u, b ≠ o → H b = some u → H' b = some u) → H' o = some (.ins (C K) dx [("numbers", .ref t)]) → H' t = some (.tup [.int n.1, .int n.2]) → Q .non H'
def sp_Late_init (K : PySem.W.Frag) : Sp := fun vs H Q _ => ∃ x0 x1, vs = [x0, x1] ∧ ∃ (o dx : Addr) (a : Nat), x0 = .ref o ∧ H o = some (.ins (He.ga K "Late") dx []) ∧ x1 = .int a ∧ a ≤ 4 ∧
  ∀ H' t, (∀ b u, b ≠ o → H b = some u → H' b = some u) → H' o = some (.ins (He.ga K "Late") dx [("numbers", .ref t)]) → H' t = some (.tup [.int a, .int (0 : Nat)]) → Q .non H'
theorem ok_Late_init {P : Program} {w : World} {K : PySem.W.Frag} {mg : Str → Option Value} {base : Heap} (T : Tx K mg) : Fn P w K mg base 4 (He.ma K (He.ga K "Late") "__init__") (sp_Late_init K) := by
  obtain ⟨fd, F⟩ := T.d_Late_init
  have hb : Binds K fd ["self", "beats"] [] := F.bindsN fun _ _ _ _ _ _ us hl => match us, hl with | [_, _], _ => rfl
  refine fn_def F sc_Late_init hb (fun vs H Q E h => by obtain ⟨_, _, rfl, _⟩ := h; rfl) fun cdv A outer s H vs Q E hr h => ⟨_, PSs.nox (pss_one (ps_fld (pv 0) (ce_call (ok_numbers_of (P := P) (w := w) T) (hr.mono (by decide)) rfl T.g_numbers_of (pa_cons (pv 1) (pa_cons pe_int pa_nil))) rfl)), ?_⟩
  obtain ⟨x0, x1, rfl, h⟩ := h
  obtain ⟨o, dx, a, rfl, ho, rfl, h4, q⟩ := h
  refine ⟨_, rfl, _, _, rfl, a, 0, rfl, rfl, by omega, fun t H' hS hnt ht => ⟨_, rfl, _, _, _, _, rfl, hS _ _ ho, T.c_Late, T.na_Late, (by show (0 : Nat) < 1000; decide), ?_⟩⟩
  refine q _ t (fun b u hb e => by rw [upd_ne hb]; exact hS _ _ e) upd_same ?_
  have hne : t ≠ o := fun e => by rw [e, ho] at hnt; exact nomatch hnt
  rw [upd_ne hne]
  exact ht
def sp_Lost_init (K : PySem.W.Frag) : Sp := fun vs H Q _ => ∃ x0 x1, vs = [x0, x1] ∧ ∃ (o dx : Addr) (a : Nat), x0 = .ref o ∧ H o = some (.ins (He.ga K "Lost") dx []) ∧ x1 = .int a ∧ a ≤ 4 ∧
  ∀ H' t, (∀ b u, b ≠ o → H b = some u → H' b = some u) → H' o = some (.ins (He.ga K "Lost") dx [("numbers", .ref t)]) → H' t = some (.tup [.int (0 : Nat), .int a]) → Q .non H'
theorem ok_Lost_init {P : Program} {w : World} {K : PySem.W.Frag} {mg : Str → Option Value} {base : Heap} (T : Tx K mg) : Fn P w K mg base 4 (He.ma K (He.ga K "Lost") "__init__") (sp_Lost_init K) := by
  obtain ⟨fd, F⟩ := T.d_Lost_init
  have hb : Binds K fd ["self", "most"] [] := F.bindsN fun _ _ _ _ _ _ us hl => match us, hl with | [_, _], _ => rfl
  refine fn_def F sc_Lost_init hb (fun vs H Q E h => by obtain ⟨_, _, rfl, _⟩ := h; rfl) fun cdv A outer s H vs Q E hr h => ⟨_, PSs.nox (pss_one (ps_fld (pv 0) (ce_call (ok_numbers_of (P := P) (w := w) T) (hr.mono (by decide)) rfl T.g_numbers_of (pa_cons pe_int (pa_cons (pv 1) pa_nil))) rfl)), ?_⟩
  obtain ⟨x0, x1, rfl, h⟩ := h
  obtain ⟨o, dx, a, rfl, ho, rfl, h4, q⟩ := h
  refine ⟨_, rfl, _, _, rfl, 0, a, rfl, rfl, by omega, fun t H' hS hnt ht => ⟨_, rfl, _, _, _, _, rfl, hS _ _ ho, T.c_Lost, T.na_Lost, (by show (0 : Nat) < 1000; decide), ?_⟩⟩
  refine q _ t (fun b u hb e => by rw [upd_ne hb]; exact hS _ _ e) upd_same ?_
  have hne : t ≠ o := fun e => by rw [e, ho] at hnt; exact nomatch hnt
  rw [upd_ne hne]
  exact ht
def sp_LateLost_init (K : PySem.W.Frag) : Sp := fun vs H Q _ => ∃ x0 x1 x2, vs = [x0, x1, x2] ∧ ∃ (o dx : Addr) (a b : Nat), x0 = .ref o ∧ H o = some (.ins (He.ga K "LateLost") dx []) ∧ x1 = .int a ∧ x2 = .int b ∧ a + b ≤ 4 ∧
  ∀ H' t, (∀ b u, b ≠ o → H b = some u → H' b = some u) → H' o = some (.ins (He.ga K "LateLost") dx [("numbers", .ref t)]) → H' t = some (.tup [.int a, .int b]) → Q .non H'
theorem ok_LateLost_init {P : Program} {w : World} {K : PySem.W.Frag} {mg : Str → Option Value} {base : Heap} (T : Tx K mg) : Fn P w K mg base 4 (He.ma K (He.ga K "LateLost") "__init__") (sp_LateLost_init K) := by
  obtain ⟨fd, F⟩ := T.d_LateLost_init
  have hb : Binds K fd ["self", "beats", "most"] [] := F.bindsN fun _ _ _ _ _ _ us hl => match us, hl with | [_, _, _], _ => rfl
  refine fn_def F sc_LateLost_init hb (fun vs H Q E h => by obtain ⟨_, _, _, rfl, _⟩ := h; rfl) fun cdv A outer s H vs Q E hr h => ⟨_, PSs.nox (pss_one (ps_fld (pv 0) (ce_call (ok_numbers_of (P := P) (w := w) T) (hr.mono (by decide)) rfl T.g_numbers_of (pa_cons (pv 1) (pa_cons (pv 2) pa_nil))) rfl)), ?_⟩
  obtain ⟨x0, x1, x2, rfl, h⟩ := h
  obtain ⟨o, dx, a, b, rfl, ho, rfl, rfl, h4, q⟩ := h
  refine ⟨_, rfl, _, rfl, _, _, rfl, a, b, rfl, rfl, h4, fun t H' hS hnt ht => ⟨_, rfl, _, _, _, _, rfl, hS _ _ ho, T.c_LateLost, T.na_LateLost, (by show (0 : Nat) < 1000; decide), ?_⟩⟩
  refine q _ t (fun b u hb e => by rw [upd_ne hb]; exact hS _ _ e) upd_same ?_
  have hne : t ≠ o := fun e => by rw [e, ho] at hnt; exact nomatch hnt
  rw [upd_ne hne]
  exact ht
theorem ty_news {K : PySem.W.Frag} {mg : Str → Option Value} (T : Tx K mg) {H : Hp} {a C dx : Addr} {fs : List (Str × V)} (hC : NC K C) (h : H a = some (.ins C dx fs)) : TyX K H (.ref a) (.ref C) ∧ PySem.W.kitAny K (.ref C) [.ref (He.ga K "Late"), .ref (He.ga K "Lost")] = some true := by
  have cl := T.ncl hC
  rcases hC with e | e | e <;> subst e
  · exact ⟨.base (.ins h cl (He.eqO_ok T.ic_Late) (He.eqO_ok T.ig) (of_decide_eq_true T.it) (of_decide_eq_true T.im_Late)), of_decide_eq_true T.ki_Late⟩
  · exact ⟨.base (.ins h cl (He.eqO_ok T.ic_Lost) (He.eqO_ok T.ig) (of_decide_eq_true T.it) (of_decide_eq_true T.im_Lost)), of_decide_eq_true T.ki_Lost⟩
  · exact ⟨.base (.ins h cl (He.eqO_ok T.ic_LateLost) (He.eqO_ok T.ig) (of_decide_eq_true T.it) (of_decide_eq_true T.im_LateLost)), of_decide_eq_true T.ki_LateLost⟩
def sp_need_news (K : PySem.W.Frag) : Sp := fun vs H Q _ => ∃ x0, vs = [x0] ∧ ∃ a b, NW K H x0 a b ∧ ∀ H', Same H H' → Q .non H'
theorem ok_need_news {P : Program} {w : World} {K : PySem.W.Frag} {mg : Str → Option Value} {base : Heap} (T : Tx K mg) : Fn P w K mg base 1 (He.ga K "need_news") (sp_need_news K) := by
  obtain ⟨fd, F⟩ := T.d_need_news
  have hb : Binds K fd ["thing"] [] := F.bindsN fun _ _ _ _ _ _ us hl => match us, hl with | [_], _ => rfl
  refine fn_def F sc_need_news hb (fun vs H Q E h => by obtain ⟨_, rfl, _⟩ := h; rfl) fun cdv A outer s H vs Q E hr h => ⟨_, PSs.nox (pss_one (ps_if (pt_not (pt_val (pe_callB call_isiT rfl T.b_isinstance boot_isinstance (pa_cons (pv 0) (pa_cons (ce_tup (pa_cons (pe_glob (v := .ref (He.ga K "Late")) (by rfl) T.g_Late rfl) (pa_cons (pe_glob (v := .ref (He.ga K "Lost")) (by rfl) T.g_Lost rfl) pa_nil))) pa_nil))))) (pss_one ps_never) pss_nil)), ?_⟩
  obtain ⟨x0, rfl, h⟩ := h
  obtain ⟨a, b, hn, q⟩ := h
  obtain ⟨ad, C, dx, fs, rfl, hC, ha⟩ := hn.at_
  refine ⟨_, rfl, by simp, fun t H2 ht hS ht2 => ?_⟩
  obtain ⟨t1, t2⟩ := ty_news T hC (hS _ _ ha)
  exact ⟨_, t, _, _, _, true, rfl, ht2, .cons (.own _) (.cons (.own _) .nil), t1, t2, true, rfl, iteF (q _ hS)⟩
def sp_need_all (K : PySem.W.Frag) : Sp := fun vs H Q _ => ∃ x0 x1 x2, vs = [x0, x1, x2] ∧ ∃ (p : Pd) (a b : Nat) (s : Sit), PL K H x0 p ∧ NW K H x1 a b ∧ ST H x2 s ∧ SitOk p (a + b) s ∧ ∀ H', Same H H' → Q .non H'
theorem ok_need_all {P : Program} {w : World} {K : PySem.W.Frag} {mg : Str → Option Value} {base : Heap} (T : Tx K mg) : Fn P w K mg base 7 (He.ga K "need_all") (sp_need_all K) := by
  obtain ⟨fd, F⟩ := T.d_need_all
  have hb : Binds K fd ["plant", "news", "situation"] [] := F.bindsN fun _ _ _ _ _ _ us hl => match us, hl with | [_, _, _], _ => rfl
  refine fn_def F sc_need_all hb (fun vs H Q E h => by obtain ⟨_, _, _, rfl, _⟩ := h; rfl) fun cdv A outer s H vs Q E hr h => ⟨_, PSs.nox (pss_cons (ps_expr (ce_call (ok_need_plant (P := P) (w := w) T) (hr.mono (by decide)) rfl T.g_need_plant (pa_cons (pv 0) pa_nil)))
      (pss_cons (ps_expr (ce_call (ok_need_news (P := P) (w := w) T) (hr.mono (by decide)) rfl T.g_need_news (pa_cons (pv 1) pa_nil)))
      (pss_one (ps_expr (ce_call (ok_need_situation (P := P) (w := w) T) (hr.mono (by decide)) rfl T.g_need_situation (pa_cons (pv 0) (pa_cons (pv 2) (pa_cons (pe_op op_add (ce_prop (pv 1) T.nla (ok_News_late T).run (hr.mono (by decide))) (ce_prop (pv 1) T.nlo (ok_News_lost T).run (hr.mono (by decide)))) pa_nil)))))))), ?_⟩
  obtain ⟨x0, x1, x2, rfl, h⟩ := h
  obtain ⟨p, a, b, s, hp, hn, hs, ok, q⟩ := h
  refine ⟨_, rfl, _, rfl, p, hp, ?_⟩
  refine ⟨_, rfl, _, rfl, a, b, hn, fun H2 hS2 => ?_⟩
  have hn2 := hn.kp (Kp.of hS2)
  obtain ⟨ad, C, dx, fs, rfl, hC, ha⟩ := hn2.at_
  have hab : a + b ≤ 2 := hn.1
  refine ⟨_, rfl, _, rfl, _, rfl, ad, C, dx, fs, rfl, hC, ha, _, rfl, a, b, hn2, _, rfl, ad, C, dx, fs, rfl, hC, ha, _, rfl, a, b, hn2, a, b, rfl, rfl, _, _, _, rfl, p, s, a + b, hp.kpS hS2, hs.kp (Kp.of hS2), by simp, ok, by omega, fun H3 hS3 => q _ (hS2.trans hS3)⟩
end Lh
set_option Elab.async false
set_option linter.all false
set_option maxRecDepth 100000
set_option maxHeartbeats 4000000
/-! The defs of news: what is due, what comes next. -/
namespace Lh
open PySem PySem.Spec PyProof.Rows L2
theorem All2.cons_inv' {α β : Type} {R : α → β → Prop} {x : α} {xs : List α} {ts : List β} (h : All2 R (x :: xs) ts) : ∃ t r, ts = t :: r ∧ R x t ∧ All2 R xs r := by
  cases ts with
  | nil => have := h.1; simp at this
  | cons t r => exact ⟨t, r, rfl, h.2 0 x t rfl rfl, by have := h.1; simpa using this, fun i a b e1 e2 => h.2 (i + 1) a b (by simpa using e1) (by simpa using e2)⟩
theorem perm_all2 {α β : Type} {R : α → β → Prop} {xs ys : List α} (p : ys.Perm xs) : ∀ {ts : List β}, All2 R xs ts → ∃ us, All2 R ys us ∧ us.Perm ts := by
  induction p with
  | nil => exact fun h => ⟨_, h, .refl _⟩
  | cons x _ ih =>
    intro ts h
    obtain ⟨t, r, rfl, h1, h2⟩ := h.cons_inv'
    obtain ⟨us, a, b⟩ := ih h2
    exact ⟨t :: us, .cons h1 a, b.cons t⟩
  | swap x y l =>
    intro ts h
    obtain ⟨t, r, rfl, h1, h2⟩ := h.cons_inv'
    obtain ⟨u, r', rfl, h3, h4⟩ := h2.cons_inv'
    exact ⟨u :: t :: r', .cons h3 (.cons h1 h4), .swap ..⟩
  | trans _ _ ih1 ih2 =>
    intro ts h
    obtain ⟨us, a, b⟩ := ih2 h
    obtain ⟨vs, c, d⟩ := ih1 a
    exact ⟨vs, c, d.trans b⟩
/-- sorting values that read as data: the same, rearranged -/
theorem srt_gen {α : Type} {K : PySem.W.Frag} {H : Hp} {enc : α → PyData} {R : V → α → Prop} (hdp : ∀ v x, R v x → Dp K H v (enc x)) (hdep : ∀ x, (enc x).depth ≤ 20) (hal : ∀ x y, PySem.W.alike (enc x) (enc y) = true) (hso : ∀ x, ∃ d r, enc x = .tuple (d :: r))
    {xs : List V} {ts : List α} (h : All2 R xs ts) (hl : xs.length ≤ 1000) : ∃ bs : List VD, bs.map (·.1) = xs ∧ SrtOk K H bs ∧ (∀ b ∈ bs, ∃ t ∈ ts, b.2 = enc t ∧ R b.1 t) ∧ ∃ us, All2 R ((bs.mergeSort leD).map (·.1)) us ∧ us.Perm ts := by
  have e1 : (((xs.zip ts).map fun z => ((z.1, enc z.2) : VD)).map (·.1)) = xs := by
    rw [List.map_map]
    have : ((fun b : VD => b.1) ∘ fun z : V × α => ((z.1, enc z.2) : VD)) = Prod.fst := rfl
    rw [this]
    exact List.map_fst_zip (by rw [h.1]; exact Nat.le_refl _)
  have mem : ∀ b ∈ (xs.zip ts).map fun z => ((z.1, enc z.2) : VD), ∃ t ∈ ts, b.2 = enc t ∧ R b.1 t := fun b hb => by
    obtain ⟨⟨x, t⟩, hz, rfl⟩ := List.mem_map.mp hb
    obtain ⟨i, hi⟩ := List.mem_iff_getElem?.mp hz
    rw [List.getElem?_zip_eq_some] at hi
    exact ⟨t, List.mem_of_getElem? hi.2, rfl, h.2 i x t hi.1 hi.2⟩
  refine ⟨_, e1, ⟨fun b hb => ?_, fun b hb => ?_, fun d hd d' hd' => ?_, .inl fun d hd => ?_, ?_⟩, mem, ?_⟩
  · obtain ⟨t, _, e, r⟩ := mem b hb
    rw [e]
    exact hdp _ _ r
  · obtain ⟨t, _, e, r⟩ := mem b hb
    rw [e]
    exact hdep t
  · obtain ⟨b, hb, rfl⟩ := List.mem_map.mp hd
    obtain ⟨b', hb', rfl⟩ := List.mem_map.mp hd'
    obtain ⟨t, _, e, _⟩ := mem b hb
    obtain ⟨t', _, e', _⟩ := mem b' hb'
    rw [e, e']
    exact hal t t'
  · obtain ⟨b, hb, rfl⟩ := List.mem_map.mp hd
    obtain ⟨t, _, e, _⟩ := mem b hb
    rw [e]
    exact hso t
  · rw [List.length_map, List.length_zip]
    omega
  · have p := (List.mergeSort_perm ((xs.zip ts).map fun z => ((z.1, enc z.2) : VD)) leD).map (·.1)
    rw [e1] at p
    exact perm_all2 p h
theorem alike_dI (a b : List Int) : PySem.W.alike (dI a) (dI b) = true := by
  rw [PySem.W.alike]
  exact PySem.W.alike_ints a b
theorem alike_dS (s t : Sit) : PySem.W.alike (dS s) (dS t) = true := by
  rw [PySem.W.alike, PySem.W.alikeAll, PySem.W.alikeAll, PySem.W.alikeAll, alike_dI, PySem.W.alike]
  rfl
/-- a tuple of situations -/
def NT (H : Hp) (v : V) (ts : List Sit) : Prop := ∃ a xs, v = .ref a ∧ H a = some (.tup xs) ∧ All2 (ST H) xs ts
theorem NT.kp {H H' : Hp} {v : V} {ts : List Sit} (k : Kp H H') (h : NT H v ts) : NT H' v ts := let ⟨a, xs, e, q, t⟩ := h; ⟨a, xs, e, k a _ q True.intro, t.mono fun _ _ z => z.kp k⟩
def sp_due_in (K : PySem.W.Frag) : Sp := fun vs H Q _ => ∃ x0 x1 x2, vs = [x0, x1, x2] ∧ ∃ (p : Pd) (a b : Nat) (s : Sit) (L : Nat), PL K H x1 p ∧ NW K H x0 a b ∧ ST H x2 s ∧ SitOk p L s ∧ L ≤ 8 ∧
  ∀ t h l H' hs last, Same H H' → H' t = some (.tup [h, l]) → IT H' h hs → IT H' l last →
    ((s.2.length ≤ a ∧ hs = [] ∧ last = s.2) ∨ (a < s.2.length ∧ hs ≠ [] ∧ Asc p.mv.length hs ∧ (∀ y, y ∈ hs ↔ LH.aft p.mv (fun x => x = s.1) (s.2.take (s.2.length - a)) y) ∧ last = s.2.drop (s.2.length - a))) → Q (.ref t) H'
theorem ok_due_in {P : Program} {w : World} {K : PySem.W.Frag} {mg : Str → Option Value} {base : Heap} (T : Tx K mg) : Fn P w K mg base 5 (He.ga K "due_in") (sp_due_in K) := by
  obtain ⟨fd, F⟩ := T.d_due_in
  have hb : Binds K fd ["news", "plant", "situation"] [] := F.bindsN fun _ _ _ _ _ _ us hl => match us, hl with | [_, _, _], _ => rfl
  refine fn_def F sc_due_in hb (fun vs H Q E h => by obtain ⟨_, _, _, rfl, _⟩ := h; rfl) fun cdv A outer s H vs Q E hr h => ⟨_, PSs.nox (pss_cons (ps_asg (pv 2) (pg_tup rfl (pgs_cons (pg_name (i := 3) sc_due_in.nd rfl (by first | exact Or.inl rfl | exact Or.inr rfl)) (pgs_cons (pg_name (i := 4) sc_due_in.nd rfl (by first | exact Or.inl rfl | exact Or.inr rfl)) pgs_nil))))
      (pss_cons (ps_set (i := 5) sc_due_in.nd rfl (by first | exact Or.inl rfl | exact Or.inr rfl) (pe_op op_sub (pe_callB (cl_len (K := K)) rfl T.b_len boot_len (pa_cons (pv 4) pa_nil)) (ce_prop (pv 0) T.nla (ok_News_late T).run (hr.mono (by decide)))))
      (pss_cons (ps_if (pt_cmpR op_lt (pv 5) pe_int (nomark _)) (pss_one (ps_ret (ce_tup (pa_cons (ce_tup pa_nil) (pa_cons (pv 4) pa_nil))))) pss_nil)
      (pss_one (ps_ret (ce_tup (pa_cons (ce_call (ok_after (P := P) (w := w) T) (hr.mono (by decide)) rfl T.g_after (pa_cons (pv 1) (pa_cons (ce_tup (pa_cons (pv 3) pa_nil)) (pa_cons (pe_slice (kx_sl (K := K)) (pv 4) po_none (po_some (pv 5))) pa_nil)))) (pa_cons (pe_slice (kx_sl (K := K)) (pv 4) (po_some (pv 5)) po_none) pa_nil)))))))), ?_⟩
  obtain ⟨x0, x1, x2, rfl, h⟩ := h
  obtain ⟨p, a, b, s, L, hp, hn, ⟨sa, r, rfl, hsa, hi⟩, ok, hL, q⟩ := h
  obtain ⟨ad, C, dx, fs, rfl, hC, had⟩ := hn.at_
  obtain ⟨ra, rfl, hra⟩ := id hi
  have hl := ok.l
  refine ⟨_, rfl, _, _, rfl, sqT hsa, rfl, _, _, rfl, _, _, rfl, rfl, ?_⟩
  refine ⟨_, rfl, _, s.2.length, rfl, .inr ⟨_, sqT hra, by simp⟩, _, rfl, ad, C, dx, fs, rfl, hC, had, _, rfl, a, b, hn, s.2.length, a, rfl, rfl, ?_⟩
  refine ⟨_, rfl, _, 1, rfl, rfl, _, rfl, ?_⟩
  by_cases hc : ((s.2.length : Int) - a) < 1
  · rw [decide_eq_true hc]
    refine iteT ⟨by simp, fun e H1 he hS1 he1 => ⟨_, rfl, by simp, fun t H2 ht hS2 ht2 => ?_⟩⟩
    exact q t _ _ H2 [] s.2 (hS1.trans hS2) ht2 ⟨e, rfl, hS2 _ _ he1⟩ (hi.kp (Kp.of (hS1.trans hS2))) (.inl ⟨by omega, rfl, rfl⟩)
  · rw [decide_eq_false hc]
    refine iteF ?_
    have ec : ((s.2.length : Int) - a).toNat = s.2.length - a := by omega
    refine ⟨_, rfl, _, rfl, by simp, fun e H1 he hS1 he1 => ?_⟩
    refine ⟨_, rfl, _, rfl, _, rfl, ra, _, rfl, hS1 _ _ hra, fun c H2 hS2 hc2 => ?_⟩
    have hc3 : H2 c = some (.tup ((s.2.take (s.2.length - a)).map V.int)) := by
      rw [hc2, cut_take (by omega) (by rw [List.length_map]; omega), ec, List.map_take]
    refine ⟨_, _, _, rfl, p, [s.1], s.2.take (s.2.length - a), hp.kpS (hS1.trans hS2), ⟨e, rfl, hS2 _ _ he1⟩, asc_one ok.a ok.b, ⟨c, rfl, hc3⟩, fun o ho => ok.r o (List.mem_of_mem_take ho), fun v H3 r3 hS3 hv hasc hne hmem => ?_⟩
    refine ⟨_, rfl, _, rfl, _, rfl, ra, _, rfl, (hS1.trans (hS2.trans hS3)) _ _ hra, fun d H4 hS4 hd4 => ⟨by simp, fun t H5 ht hS5 ht5 => ?_⟩⟩
    have hd5 : H5 d = some (.tup ((s.2.drop (s.2.length - a)).map V.int)) := by
      rw [hS5 _ _ hd4, cut_drop (by omega), ec, List.map_drop]
    refine q t _ _ H5 r3 _ (hS1.trans (hS2.trans (hS3.trans (hS4.trans hS5)))) ht5 (hv.kp (Kp.of (hS4.trans hS5))) ⟨d, rfl, hd5⟩ (.inr ⟨by omega, hne (by simp), hasc, fun y => ?_, rfl⟩)
    rw [hmem y]
    exact aft_congr (fun x => by simp) _ y
theorem none_back {H H' : Hp} {p : Addr} (s : Same H H') (h : H' p = none) : H p = none := by
  cases e : H p with
  | none => rfl
  | some o =>
    rw [s p o e] at h
    exact nomatch h
theorem next_due {mv : Mv} {a b : Nat} {s : Sit} {o : Int} {hs last : List Int} (h1 : a < (s.2 ++ [o]).length) (hm : ∀ y, y ∈ hs ↔ LH.aft mv (fun x => x = s.1) ((s.2 ++ [o]).take ((s.2 ++ [o]).length - a)) y) (hl : last = (s.2 ++ [o]).drop ((s.2 ++ [o]).length - a)) (t : Sit) :
    LH.Next mv a b s o t ↔ (t ∈ hs.map fun y => (y, last)) ∨ ((s.2 ++ [o]).length ≤ a + b ∧ t = (s.1, s.2 ++ [o])) := by
  unfold LH.Next
  refine ⟨fun z => ?_, fun z => ?_⟩
  · rcases z with z | ⟨_, ⟨y, hy, e⟩ | z⟩
    · omega
    · exact .inl (List.mem_map.mpr ⟨y, (hm y).mpr hy, by rw [hl]; exact e.symm⟩)
    · exact .inr z
  · rcases z with z | z
    · obtain ⟨y, hy, e⟩ := List.mem_map.mp z
      exact .inr ⟨h1, .inl ⟨y, (hm y).mp hy, by rw [← hl]; exact e.symm⟩⟩
    · exact .inr ⟨h1, .inr z⟩
def sp_next_in (K : PySem.W.Frag) : Sp := fun vs H Q _ => ∃ x0 x1 x2 x3, vs = [x0, x1, x2, x3] ∧ ∃ (p : Pd) (a b : Nat) (s : Sit) (o : Int), PL K H x1 p ∧ NW K H x0 a b ∧ ST H x2 s ∧ SitOk p (a + b) s ∧ x3 = .int o ∧ 0 ≤ o ∧ o < p.m ∧
  ∀ v H' ts, Same H H' → NT H' v ts → (∀ t, t ∈ ts ↔ LH.Next p.mv a b s o t) → ts.length ≤ 5 → Q v H'
theorem ok_next_in {P : Program} {w : World} {K : PySem.W.Frag} {mg : Str → Option Value} {base : Heap} (T : Tx K mg) : Fn P w K mg base 6 (He.ga K "next_in") (sp_next_in K) := by
  obtain ⟨fd, F⟩ := T.d_next_in
  have hb : Binds K fd ["news", "plant", "situation", "order"] [] := F.bindsN fun _ _ _ _ _ _ us hl => match us, hl with | [_, _, _, _], _ => rfl
  refine fn_def F sc_next_in hb (fun vs H Q E h => by obtain ⟨_, _, _, _, rfl, _⟩ := h; rfl) fun cdv A outer s H vs Q E hr h => ⟨_, PSs.nox (pss_cons (ps_asg (pv 2) (pg_tup rfl (pgs_cons (pg_name (i := 4) sc_next_in.nd rfl (by first | exact Or.inl rfl | exact Or.inr rfl)) (pgs_cons (pg_name (i := 5) sc_next_in.nd rfl (by first | exact Or.inl rfl | exact Or.inr rfl)) pgs_nil))))
      (pss_cons (ps_set (i := 6) sc_next_in.nd rfl (by first | exact Or.inl rfl | exact Or.inr rfl) (ce_tup (kx_star (K := K) <| StX.pa_star (pv 5) (pa_cons (pv 3) pa_nil))))
      (pss_cons (ps_asg (ce_call (ok_due_in (P := P) (w := w) T) (hr.mono (by decide)) rfl T.g_due_in (pa_cons (pv 0) (pa_cons (pv 1) (pa_cons (ce_tup (pa_cons (pv 4) (pa_cons (pv 6) pa_nil))) pa_nil)))) (pg_tup rfl (pgs_cons (pg_name (i := 7) sc_next_in.nd rfl (by first | exact Or.inl rfl | exact Or.inr rfl)) (pgs_cons (pg_name (i := 8) sc_next_in.nd rfl (by first | exact Or.inl rfl | exact Or.inr rfl)) pgs_nil))))
      (pss_cons (ps_if (pt_cmpR (kx_eqD (K := K) hr.units) (pv 7) (ce_tup pa_nil) (nomark _)) (pss_one (ps_ret (ce_tup (pa_cons (ce_tup (pa_cons (pv 4) (pa_cons (pv 6) pa_nil))) pa_nil)))) pss_nil)
      (pss_cons (cs_lc .t (j := 9) rfl sc_next_in.nd rfl rfl (sw_true rfl rfl rfl (by decide +kernel)) (pv 7) (blkOk_by (own := [("one", 10)]) (N := n_next_in) (sc := defScope s_next_in) (by decide +kernel)) (fun _ _ _ _ _ => pg_name (i := 10) sc_next_in.nd rfl (Or.inl rfl)) (fun _ _ _ _ _ => pts_nil) (fun _ _ _ _ _ => (ce_tup (pa_cons (pv 10) (pa_cons (pv 8) pa_nil)))))
      (pss_cons (ps_if (pt_cmpR op_le (pe_callB (cl_len (K := K)) rfl T.b_len boot_len (pa_cons (pv 6) pa_nil)) (pe_op op_add (ce_prop (pv 0) T.nla (ok_News_late T).run (hr.mono (by decide))) (ce_prop (pv 0) T.nlo (ok_News_lost T).run (hr.mono (by decide)))) (nomark _)) (pss_one (ps_expr (kx_bm (K := K) <| pe_bm PySem.F.plainAttrs_list PySem.F.slot_list_append PySem.F.type_list_append mt_append (pv 9) (pa_cons (ce_tup (pa_cons (pv 4) (pa_cons (pv 6) pa_nil))) pa_nil)))) pss_nil)
      (pss_one (ps_ret (pe_callTy (kx_tuple (K := K)) rfl T.b_tuple boot_tuple (pa_cons (pe_callB (cr_sortedD hr.units .l) rfl T.b_sorted boot_sorted (pa_cons (pv 9) pa_nil)) pa_nil)))))))))), ?_⟩
  obtain ⟨x0, x1, x2, x3, rfl, h⟩ := h
  obtain ⟨p, a, b, s, o, hp, hn, ⟨sa, r, rfl, hsa, hi⟩, ok, rfl, h0, h1, q⟩ := h
  have hab : a + b ≤ 2 := hn.1
  obtain ⟨ra, rfl, hra⟩ := id hi
  have hl := ok.l
  have n4 := hp.ge.wf.n4
  refine ⟨_, rfl, _, _, rfl, sqT hsa, rfl, _, _, rfl, _, _, rfl, rfl, ?_⟩
  refine ⟨_, rfl, ra, _, rfl, .inl (sqT hra), _, rfl, by simp; omega, fun lg H1 hlg hS1 hlg1 => ?_⟩
  have hlg2 : IT H1 (.ref lg) (s.2 ++ [o]) := ⟨lg, rfl, by rw [hlg1]; simp⟩
  refine ⟨_, rfl, _, rfl, _, rfl, _, rfl, by simp, fun c H2 hc hS2 hc2 => ?_⟩
  have hS12 := hS1.trans hS2
  have okL : SitOk p 3 (s.1, s.2 ++ [o]) := ⟨ok.a, ok.b, fun z hz => by
    rcases List.mem_append.mp hz with z1 | z1
    · exact ok.r z z1
    · rw [List.mem_singleton.mp z1]; exact ⟨h0, h1⟩, by simp; omega⟩
  refine ⟨_, _, _, rfl, p, a, b, (s.1, s.2 ++ [o]), 3, hp.kpS hS12, hn.kp (Kp.of hS12), ⟨c, _, rfl, hc2, hlg2.kp (Kp.of hS2)⟩, okL, by omega, fun t h l H3 hs last hS3 ht hh hll hcase => ?_⟩
  have hS13 := hS12.trans hS3
  refine ⟨t, _, rfl, sqT ht, rfl, _, _, rfl, _, _, rfl, rfl, ?_⟩
  refine ⟨_, rfl, by simp, fun e H4 he hS4 he4 => ⟨dI hs, .tuple [], (hh.kp (Kp.of hS4)).dp, .tup (sqT he4) .nil, (fl_dI hs).sh (by decide), (fl_tup (n := 0) (by simp)).sh (by decide), _, rfl, ?_⟩⟩
  rw [eqv_nilT]
  have hS14 := hS13.trans hS4
  have lgk : IT H4 (.ref lg) (s.2 ++ [o]) := hlg2.kp (Kp.of (hS2.trans (hS3.trans hS4)))
  rcases hcase with ⟨c1, c2, c3⟩ | ⟨c1, c2, c3, c4, c5⟩
  · subst c2 c3
    refine iteT ⟨_, rfl, _, rfl, by simp, fun f H5 hf hS5 hf5 => ⟨by simp, fun g H6 hg hS6 hg6 => ?_⟩⟩
    refine q _ H6 [(s.1, s.2 ++ [o])] (hS14.trans (hS5.trans hS6)) ⟨g, _, rfl, hg6, .cons ⟨f, _, rfl, hS6 _ _ hf5, lgk.kp (Kp.of (hS5.trans hS6))⟩ .nil⟩ (fun t => ?_) (by simp)
    unfold LH.Next
    rw [List.mem_singleton]
    refine ⟨fun z => .inl ⟨c1, z⟩, fun z => ?_⟩
    rcases z with z | z
    · exact z.2
    · have := z.1
      simp only at c1
      omega
  · have hne : (hs.map PyData.int).isEmpty = false := by
      cases hs with
      | nil => exact (c2 rfl).elim
      | cons _ _ => rfl
    rw [hne]
    refine iteF ?_
    obtain ⟨ha, rfl, hha⟩ := hh.kp (Kp.of hS4)
    have hll4 := hll.kp (Kp.of hS4)
    have hsl := Asc_len c3
    refine ⟨_, rfl, ha, _, rfl, sqT hha, by simp; omega, by simp, fun k acc H5 => All2 (ST H5) acc ((hs.take k).map fun y => ((y, last) : Sit)), by simpa using All2.nil, fun k acc H5 H6 hk hR => hR.mono fun _ _ z => z.kp hk, fun k x H5 acc hx hR hS5 => mTT.mk (yesT ?_), fun D acc H5 hD hS5 hd hR => ?_⟩
    · obtain ⟨y, hy, rfl⟩ := ints_at hx
      refine mTE.mk ⟨_, rfl, _, rfl, by simp, fun f H6 hf hS6 hf6 => ⟨hS6, ?_⟩⟩
      have e : (hs.take (k + 1)).map (fun y => ((y, last) : Sit)) = (hs.take k).map (fun y => ((y, last) : Sit)) ++ [(y, last)] := by
        rw [List.take_add_one, hy]
        simp
      show All2 (ST H6) _ ((hs.take (k + 1)).map fun y => ((y, last) : Sit))
      rw [e]
      exact (hR.mono fun _ _ z => z.kp (Kp.of hS6)).snoc ⟨f, _, rfl, hf6, hll4.kp (Kp.of (hS5.trans hS6))⟩
    have hR : All2 (ST H5) acc ((hs.take (hs.map V.int).length).map fun y => ((y, last) : Sit)) := hR
    rw [List.length_map, List.take_length] at hR
    have hS15 := hS14.trans hS5
    have hDn := none_back hS14 hD
    have hp5 := hp.kpS hS15
    have hn5 := hn.kp (Kp.of hS15)
    have lgk5 := lgk.kp (Kp.of hS5)
    obtain ⟨ad, C, dx, fs, rfl, hC, had⟩ := hn5.at_
    have accl : acc.length ≤ 4 := by
      rw [hR.1, List.length_map]
      omega
    obtain ⟨lgx, elg, hlg5⟩ := id lgk5
    cases elg
    -- the list is sorted, whatever it holds
    have fin : ∀ (H6 : Hp) (acc2 : List V) (ts : List Sit), Same (fun _ => none) H6 → Same H H6 → H6 D = some (.lst acc2) → All2 (ST H6) acc2 ts → (∀ t, t ∈ ts ↔ LH.Next p.mv a b s o t) → acc2.length ≤ 5 →
        rSrtD K .l [.ref D] H6 fun v H7 => ∃ w, v = .ref w ∧ ∃ xs us, H7 w = some (.lst xs) ∧ Same H H7 ∧ All2 (ST H7) xs us ∧ (∀ t, t ∈ us ↔ LH.Next p.mv a b s o t) ∧ us.length ≤ 5 := by
      intro H6 acc2 ts _ hS6 hd6 hall hmem hlen
      obtain ⟨bs, e1, ok, _, us, hus, pm⟩ := srt_gen (K := K) (fun v x r => ST.dp r) (fun s => Nat.le_trans (fl_dS s).2 (by decide)) alike_dS (fun s => ⟨_, _, rfl⟩) hall (by omega)
      refine ⟨D, bs, rfl, by rw [e1]; exact sqL hd6, ok, fun w H7 hw hS7 hw7 => ⟨w, rfl, _, us, hw7, hS6.trans hS7, hus.mono fun _ _ z => z.kp (Kp.of hS7), fun t => by rw [pm.mem_iff]; exact hmem t, ?_⟩⟩
      rw [pm.length_eq, ← hall.1]
      exact hlen
    refine ⟨_, rfl, _, (s.2 ++ [o]).length, rfl, .inr ⟨_, sqT hlg5, by simp⟩, _, rfl, ad, C, dx, fs, rfl, hC, had, _, rfl, a, b, hn5, _, rfl, ad, C, dx, fs, rfl, hC, had, _, rfl, a, b, hn5, a, b, rfl, rfl, _, _, rfl, rfl, _, rfl, ?_⟩
    have last_ : ∀ (H6 : Hp) (acc2 : List V) (ts : List Sit), Same H H6 → H6 D = some (.lst acc2) → All2 (ST H6) acc2 ts → (∀ t, t ∈ ts ↔ LH.Next p.mv a b s o t) → acc2.length ≤ 5 →
        tCB (rTupK K) (tCons (tCB (rSrtD K .l) (tCons (tC (.ref D)) tNil)) tNil) [] H6 Q := by
      intro H6 acc2 ts hS6 hd6 hall hmem hlen
      obtain ⟨bs, e1, ok, _, us, hus, pm⟩ := srt_gen (K := K) (fun v x r => ST.dp r) (fun s => Nat.le_trans (fl_dS s).2 (by decide)) alike_dS (fun s => ⟨_, _, rfl⟩) hall (by omega)
      refine ⟨D, bs, rfl, by rw [e1]; exact sqL hd6, ok, fun w H7 hw hS7 hw7 => ⟨w, _, rfl, sqL hw7, fun z H8 hz hS8 hz8 => ?_⟩⟩
      refine q _ H8 us (hS6.trans (hS7.trans hS8)) ⟨z, _, rfl, hz8, hus.mono fun _ _ z => z.kp (Kp.of (hS7.trans hS8))⟩ (fun t => by rw [pm.mem_iff]; exact hmem t) ?_
      rw [pm.length_eq, ← hall.1]
      exact hlen
    by_cases hc6 : ((s.2 ++ [o]).length : Int) ≤ (a : Int) + b
    · rw [decide_eq_true hc6]
      refine iteT ?_
      refine ⟨_, rfl, .inl ⟨rfl, _, sqL hd⟩, _, rfl, _, rfl, by simp, fun f H6 hf hS6 hf6 => ?_⟩
      refine ⟨D, acc, _, rfl, rfl, hS6 _ _ hd, small1000 (by omega), ⟨_, rfl, ?_⟩⟩
      have kp7 : Kp H6 (upd H6 D (.lst (acc ++ [.ref f]))) := Kp.lst (hS6 _ _ hd)
      exact last_ (upd H6 D (.lst (acc ++ [.ref f]))) _ (hs.map (fun y => ((y, last) : Sit)) ++ [(s.1, s.2 ++ [o])]) (same_put (hS15.trans hS6) hDn) upd_same (((hR.mono fun _ _ z => z.kp (Kp.of hS6)).snoc (show ST H6 (.ref f) (s.1, s.2 ++ [o]) from ⟨f, _, rfl, hf6, lgk5.kp (Kp.of hS6)⟩)).mono fun _ _ z => z.kp kp7) (fun t => by
        rw [next_due c1 c4 c5 t, List.mem_append, List.mem_singleton]
        exact ⟨fun z => z.imp id fun z => ⟨by omega, z⟩, fun z => z.imp id fun z => z.2⟩) (by simp; omega)
    · rw [decide_eq_false hc6]
      refine iteF ⟨_, rfl, ?_⟩
      exact last_ H5 acc (hs.map fun y => ((y, last) : Sit)) hS15 hd hR (fun t => by
        rw [next_due c1 c4 c5 t]
        exact ⟨fun z => .inl z, fun z => z.elim id fun z => by omega⟩) (by omega)
end Lh
set_option Elab.async false
set_option linter.all false
set_option maxRecDepth 100000
set_option maxHeartbeats 4000000
/-! Ways: their data, their number. -/
namespace Lh
open PySem PySem.Spec PyProof.Rows L2
/-! ### what the dict holds -/
theorem at_mem {es : List Ent} {k : Sit} {v : V} (h : at_ es k = some v) : ∃ e ∈ es, e.1 = k ∧ e.2.2 = v := by
  unfold at_ at h
  obtain ⟨e, h1, h2⟩ := Option.map_eq_some_iff.mp h
  exact ⟨e, List.mem_of_find?_eq_some h1, of_decide_eq_true (by simpa using List.find?_some h1), h2⟩
theorem at_of {es : List Ent} (nd : (es.map (·.1)).Nodup) {e : Ent} (h : e ∈ es) : at_ es e.1 = some e.2.2 := by
  induction es with
  | nil => exact nomatch h
  | cons x es ih =>
    rw [List.map_cons, List.nodup_cons] at nd
    unfold at_
    rw [List.find?_cons]
    by_cases q : x.1 = e.1
    · rw [decide_eq_true q]
      rcases List.mem_cons.mp h with z | z
      · rw [← z]
        rfl
      · exact (nd.1 (q ▸ List.mem_map.mpr ⟨e, z, rfl⟩)).elim
    · rw [decide_eq_false q]
      rcases List.mem_cons.mp h with z | z
      · exact (q (by rw [z])).elim
      · exact ih nd.2 z
theorem at_some {es : List Ent} {k : Sit} : (at_ es k).isSome = true ↔ ∃ e ∈ es, e.1 = k := by
  unfold at_
  rw [Option.isSome_map, List.find?_isSome]
  simp
theorem put_new {es : List Ent} {k : Sit} {a : Addr} {v : V} (h : (at_ es k).isSome = false) : put_ es k a v = es ++ [(k, a, v)] := by
  unfold put_
  rw [h]
  rfl
theorem nd_snoc {es : List Ent} {k : Sit} {a : Addr} {v : V} (h : (at_ es k).isSome = false) (nd : (es.map (·.1)).Nodup) : ((es ++ [(k, a, v)]).map (·.1)).Nodup := by
  rw [List.map_append]
  refine List.nodup_append.mpr ⟨nd, by simp, fun x hx y hy e => ?_⟩
  have hy : y = k := by simpa using hy
  obtain ⟨z, hz, e2⟩ := List.mem_map.mp hx
  have : (at_ es k).isSome = true := at_some.mpr ⟨z, hz, by rw [e2, e, hy]⟩
  rw [h] at this
  exact nomatch this
/-! ### how many situations there are -/
theorem nodup_len {α : Type} [DecidableEq α] : ∀ {D U : List α}, D.Nodup → (∀ x ∈ D, x ∈ U) → D.length ≤ U.length
  | [], _, _, _ => Nat.zero_le _
  | x :: D, U, nd, h => by
    obtain ⟨n1, n2⟩ := List.nodup_cons.mp nd
    have hx := h x (List.mem_cons_self ..)
    have := nodup_len (U := U.erase x) n2 fun y hy => (List.mem_erase_of_ne (fun e => n1 (by rw [← e]; exact hy))).mpr (h y (List.mem_cons_of_mem _ hy))
    rw [List.length_erase_of_mem hx] at this
    have hp : 0 < U.length := List.length_pos_of_mem hx
    simp only [List.length_cons]
    omega
def rowsLe (m : Nat) : Nat → List (List Int)
  | 0 => [[]]
  | L + 1 => [] :: (List.range m).flatMap fun (o : Nat) => (rowsLe m L).map fun r => (o : Int) :: r
theorem mem_rows {m : Nat} : ∀ {L : Nat} {r : List Int}, (∀ o ∈ r, 0 ≤ o ∧ o < m) → r.length ≤ L → r ∈ rowsLe m L
  | 0, r, _, h => by
    have : r = [] := List.length_eq_zero_iff.mp (by omega)
    simp [rowsLe, this]
  | L + 1, [], _, _ => by simp [rowsLe]
  | L + 1, o :: r, h, hl => by
    obtain ⟨h0, h1⟩ := h o (List.mem_cons_self ..)
    have := mem_rows (L := L) (r := r) (fun x hx => h x (List.mem_cons_of_mem _ hx)) (by simp only [List.length_cons] at hl; omega)
    unfold rowsLe
    refine List.mem_cons_of_mem _ (List.mem_flatMap.mpr ⟨o.toNat, List.mem_range.mpr (by omega), List.mem_map.mpr ⟨r, this, ?_⟩⟩)
    rw [Int.toNat_of_nonneg h0]
theorem len_rows {m : Nat} (hm : m ≤ 3) : ∀ {L : Nat}, L ≤ 2 → (rowsLe m L).length ≤ 13 := by
  have key : ∀ L, (rowsLe m (L + 1)).length ≤ 1 + 3 * (rowsLe m L).length := fun L => by
    have e0 : rowsLe m (L + 1) = [] :: (List.range m).flatMap fun (o : Nat) => (rowsLe m L).map fun r => (o : Int) :: r := rfl
    rw [e0, List.length_cons, List.length_flatMap]
    have e : ((List.range m).map fun (o : Nat) => ((rowsLe m L).map fun r => (o : Int) :: r).length) = (List.range m).map fun _ => (rowsLe m L).length := by
      refine List.map_congr_left fun o _ => by rw [List.length_map]
    rw [e, List.map_const', List.sum_replicate_nat, List.length_range]
    have := Nat.mul_le_mul_right (rowsLe m L).length hm
    omega
  have r0 : (rowsLe m 0).length = 1 := rfl
  have r1 : (rowsLe m 1).length ≤ 1 + 3 * (rowsLe m 0).length := key 0
  have r2 : (rowsLe m 2).length ≤ 1 + 3 * (rowsLe m 1).length := key 1
  intro L hL
  match L, hL with
  | 0, _ => omega
  | 1, _ => omega
  | 2, _ => omega
def univ (n m L : Nat) : List Sit := (List.range n).flatMap fun (p : Nat) => (rowsLe m L).map fun r => ((p : Int), r)
theorem mem_univ {p : Pd} {L : Nat} {s : Sit} (h : SitOk p L s) : s ∈ univ p.mv.length p.m L := by
  refine List.mem_flatMap.mpr ⟨s.1.toNat, List.mem_range.mpr (by have := h.a; have := h.b; omega), List.mem_map.mpr ⟨s.2, mem_rows h.r h.l, ?_⟩⟩
  rw [Int.toNat_of_nonneg h.a]
theorem len_univ {n m L : Nat} (hn : n ≤ 4) (hm : m ≤ 3) (hL : L ≤ 2) : (univ n m L).length ≤ 52 := by
  unfold univ
  rw [List.length_flatMap]
  have e : ((List.range n).map fun (p : Nat) => ((rowsLe m L).map fun r => ((p : Int), r)).length) = (List.range n).map fun _ => (rowsLe m L).length := by
    refine List.map_congr_left fun o _ => by rw [List.length_map]
  rw [e, List.map_const', List.sum_replicate_nat, List.length_range]
  have := len_rows hm hL
  have := Nat.mul_le_mul hn this
  omega
theorem sits_len {p : Pd} (ok : p.Ok) {L : Nat} (hL : L ≤ 2) {D : List Sit} (nd : D.Nodup) (h : ∀ s ∈ D, SitOk p L s) : D.length ≤ 52 :=
  Nat.le_trans (nodup_len nd fun s hs => mem_univ (h s hs)) (len_univ ok.wf.n4 ok.wf.m3 hL)
/-! ### next situations are situations -/
theorem ans_in {p : Pd} (ok : p.Ok) {i o x : Int} (h : x ∈ LH.ans p.mv i o) : 0 ≤ x ∧ x < p.mv.length := by
  obtain ⟨row, h1, l, h2, h3⟩ := LH.ans_lt h
  exact (ok.wf.an row (List.mem_of_getElem? h1) l (List.mem_of_getElem? h2)).2.2 x h3
theorem aft_in {p : Pd} (ok : p.Ok) : ∀ (r : List Int) (S : Int → Prop), (∀ x, S x → 0 ≤ x ∧ x < p.mv.length) → ∀ x, LH.aft p.mv S r x → 0 ≤ x ∧ x < p.mv.length
  | [], _, h, x, q => h x q
  | o :: r, S, h, x, q => aft_in ok r _ (fun x ⟨_, _, hx⟩ => ans_in ok hx) x q
theorem next_ok {p : Pd} (ok : p.Ok) {a b : Nat} {s t : Sit} {o : Int} (h : SitOk p (a + b) s) (h0 : 0 ≤ o) (h1 : o < p.m) (n : LH.Next p.mv a b s o t) : SitOk p (a + b) t := by
  have hr : ∀ z ∈ s.2 ++ [o], 0 ≤ z ∧ z < p.m := fun z hz => by
    rcases List.mem_append.mp hz with q | q
    · exact h.r z q
    · rw [List.mem_singleton.mp q]
      exact ⟨h0, h1⟩
  rcases n with ⟨n1, e⟩ | ⟨n1, ⟨y, hy, e⟩ | ⟨n2, e⟩⟩
  · subst e
    exact ⟨h.a, h.b, hr, by show (s.2 ++ [o]).length ≤ a + b; omega⟩
  · subst e
    obtain ⟨y0, y1⟩ := aft_in ok _ _ (fun x hx => by rw [hx]; exact ⟨h.a, h.b⟩) y hy
    refine ⟨y0, y1, fun z hz => hr z (List.mem_of_mem_drop hz), ?_⟩
    show ((s.2 ++ [o]).drop _).length ≤ a + b
    rw [List.length_drop]
    omega
  · subst e
    exact ⟨h.a, h.b, hr, n2⟩
/-! ### ways -/
/-- an entry's value: the list of what comes next, order by order -/
def WL (H : Hp) (l : Addr) (p : Pd) (a b : Nat) (s : Sit) : Prop := ∃ xs, H l = some (.lst xs) ∧ xs.length = p.m ∧ ∀ (k : Nat) (x : V), xs[k]? = some x → ∃ ts, NT H x ts ∧ (∀ t, t ∈ ts ↔ LH.Next p.mv a b s k t) ∧ ts.length ≤ 5
theorem WL.keep {H H' : Hp} {l : Addr} {p : Pd} {a b : Nat} {s : Sit} (h : WL H l p a b s) (k : Kp H H') (hl : ∀ o, H l = some o → H' l = some o) : WL H' l p a b s := by
  obtain ⟨xs, e, n, q⟩ := h
  exact ⟨xs, hl _ e, n, fun i x hx => let ⟨ts, a1, a2, a3⟩ := q i x hx; ⟨ts, a1.kp k, a2, a3⟩⟩
structure Ways (H : Hp) (p : Pd) (a b : Nat) (es : List Ent) : Prop where
  ok : ∀ e ∈ es, SitOk p (a + b) e.1
  wl : ∀ e ∈ es, ∃ l, e.2.2 = .ref l ∧ WL H l p a b e.1
  cl : ∀ e ∈ es, ∀ k : Nat, k < p.m → ∀ t, LH.Next p.mv a b e.1 k t → ∃ e' ∈ es, e'.1 = t
  nd : (es.map (·.1)).Nodup
  ks : KeysOk H es
theorem Ways.same {H H' : Hp} {p : Pd} {a b : Nat} {es : List Ent} (h : Ways H p a b es) (s : Same H H') : Ways H' p a b es :=
  ⟨h.ok, fun e m => let ⟨l, e1, w⟩ := h.wl e m; ⟨l, e1, w.keep (Kp.of s) (fun o q => s _ _ q)⟩, h.cl, h.nd, h.ks.kp (Kp.of s)⟩
end Lh
set_option Elab.async false
set_option linter.all false
set_option maxRecDepth 100000
set_option maxHeartbeats 4000000
/-! ways_from. -/
namespace Lh
open PySem PySem.Spec PyProof.Rows L2
/-- all but two objects stays -/
def Kd (d l : Addr) (H H' : Hp) : Prop := ∀ b o, b ≠ d → b ≠ l → H b = some o → H' b = some o
theorem Kd.of {d l : Addr} {H H' : Hp} (s : Same H H') : Kd d l H H' := fun b o _ _ e => s b o e
theorem Kd.trans {d l : Addr} {H H1 H2 : Hp} (a : Kd d l H H1) (b : Kd d l H1 H2) : Kd d l H H2 := fun c o h1 h2 e => b c o h1 h2 (a c o h1 h2 e)
theorem Kd.kp {P : Program} {w : World} {d l : Addr} {H H' : Hp} {es : List Ent} {ws : List V} (k : Kd d l H H') (hd : H d = some (dicO P w d es)) (hl : H l = some (.lst ws)) : Kp H H' := fun b o e f => by
  refine k b o (fun z => ?_) (fun z => ?_) e
  · subst z
    rw [hd] at e
    cases e
    exact f
  · subst z
    rw [hl] at e
    cases e
    exact f
structure WInv (P : Program) (w : World) (H0 H : Hp) (p : Pd) (a b : Nat) (s : Sit) (d l : Addr) (es : List Ent) (ws : List V) (ss : List Sit) : Prop where
  sm : Same H0 H
  hd : H d = some (dicO P w d es)
  hl : H l = some (.lst ws)
  al : All2 (ST H) ws ss
  so : ∀ t ∈ ss, SitOk p (a + b) t
  eo : ∀ e ∈ es, SitOk p (a + b) e.1
  ew : ∀ e ∈ es, ∃ g, e.2.2 = .ref g ∧ g ≠ d ∧ g ≠ l ∧ WL H g p a b e.1
  cl : ∀ e ∈ es, ∀ k : Nat, k < p.m → ∀ t, LH.Next p.mv a b e.1 k t → (∃ e' ∈ es, e'.1 = t) ∨ t ∈ ss
  nd : (es.map (·.1)).Nodup
  ks : KeysOk H es
  st : (∃ e ∈ es, e.1 = s) ∨ s ∈ ss
  bd : (52 - es.length) * 16 + ws.length ≤ 833
theorem ew_keep {H H' : Hp} {p : Pd} {a b : Nat} {d l : Addr} {es : List Ent} (h : ∀ e ∈ es, ∃ g, e.2.2 = .ref g ∧ g ≠ d ∧ g ≠ l ∧ WL H g p a b e.1) (k : Kd d l H H') (kp : Kp H H') : ∀ e ∈ es, ∃ g, e.2.2 = .ref g ∧ g ≠ d ∧ g ≠ l ∧ WL H' g p a b e.1 :=
  fun e m => let ⟨g, e1, n1, n2, q⟩ := h e m; ⟨g, e1, n1, n2, q.keep kp fun o z => k g o n1 n2 z⟩
def sp_ways_from (P : Program) (w : World) (K : PySem.W.Frag) : Sp := fun vs H Q _ => ∃ x0 x1 x2, vs = [x0, x1, x2] ∧ ∃ (p : Pd) (a b : Nat) (s : Sit), PL K H x0 p ∧ NW K H x1 a b ∧ ST H x2 s ∧ SitOk p (a + b) s ∧
  ∀ d H' es, Same H H' → H d = none → H' d = some (dicO P w d es) → Ways H' p a b es → (∃ e ∈ es, e.1 = s) → es.length ≤ 52 → Q (.ref d) H'
theorem ok_ways_from {P : Program} {w : World} {K : PySem.W.Frag} {mg : Str → Option Value} {base : Heap} (T : Tx K mg) : Fn P w K mg base 7 (He.ga K "ways_from") (sp_ways_from P w K) := by
  obtain ⟨fd, F⟩ := T.d_ways_from
  have hb : Binds K fd ["plant", "news", "situation"] [] := F.bindsN fun _ _ _ _ _ _ us hl => match us, hl with | [_, _, _], _ => rfl
  refine fn_def F sc_ways_from hb (fun vs H Q E h => by obtain ⟨_, _, _, rfl, _⟩ := h; rfl) fun cdv A outer s H vs Q E hr h => ⟨_, PSs.nox (pss_cons (ps_par (i := 3) (j := 4) (by rfl) sc_ways_from.nd rfl rfl (by decide) rfl rfl (pa_cons ce_dnewS (pa_cons (ce_lst (pa_cons (pv 2) pa_nil)) pa_nil)) (by rfl))
      (pss_cons (ps_while PassesOwn.never (pt_cmpR (kx_neD (K := K) hr.units) (pv 4) (ce_lst pa_nil) (nomark _)) (pss_cons (ps_set (i := 5) sc_ways_from.nd rfl (by first | exact Or.inl rfl | exact Or.inr rfl) (pe_bm0 PySem.F.plainAttrs_list PySem.F.slot_list_pop PySem.F.type_list_pop mt_pop (pv 4)))
      (pss_one (ps_if (pt_cmpR (kx_notInS (P := P) (w := w) hr.units) (pv 5) (pv 3) (by rfl)) (pss_cons (ps_asg (ce_lcR rfl sc_ways_from.nd rfl T.b_range (pa_cons (ce_prop (pv 0) T.pl_orders (ok_Plant_orders T).run (hr.mono (by decide))) pa_nil) (blkOk_by (own := [("order", 6)]) (N := n_ways_from) (sc := defScope s_ways_from) (by decide +kernel)) (fun _ _ _ _ _ => pg_name (i := 6) sc_ways_from.nd rfl (Or.inl rfl)) (fun _ _ _ _ _ => pts_nil) (fun _ _ _ _ _ => (ce_call (ok_next_in (P := P) (w := w) T) (hr.mono (by decide)) rfl T.g_next_in (pa_cons (pv 1) (pa_cons (pv 0) (pa_cons (pv 5) (pa_cons (pv 6) pa_nil))))))) (pg_sub (pv 3) (pv 5) (set_dicS hr.units)))
      (pss_one (ps_for PassesOwn.never rfl (pi_list (pe_ix (kx_dic (P := P) (w := w) hr.units) (pv 3) (pv 5) (fun _ _ => rfl))) (pg_name (i := 7) sc_ways_from.nd rfl (by first | exact Or.inl rfl | exact Or.inr rfl)) (pss_one (ps_expr (kx_bm (K := K) <| pe_bm PySem.F.plainAttrs_list PySem.F.slot_list_extend PySem.F.type_list_extend mt_extT (pv 4) (pa_cons (pv 7) pa_nil))))))) pss_nil))))
      (pss_one (ps_ret (pv 3))))), ?_⟩
  obtain ⟨x0, x1, x2, rfl, h⟩ := h
  obtain ⟨p, a, b, s, hp, hn, hs, ok, q⟩ := h
  have hab : a + b ≤ 2 := hn.1
  have m3 := hp.ge.wf.m3
  intro d H1 hd hS1 hd1
  refine ⟨_, rfl, by simp, fun wl H2 hwl hS2 hwl2 => ⟨_, _, rfl, ?_⟩⟩
  have hdl : d ≠ wl := fun e => by rw [e] at hd1; rw [hd1] at hwl; exact nomatch hwl
  have hS12 := hS1.trans hS2
  have hwl0 := none_back hS1 hwl
  have winv0 : WInv P w H H2 p a b s d wl [] [x2] [s] := ⟨hS12, hS2 _ _ hd1, hwl2, .cons (hs.kp (Kp.of hS12)) .nil, fun t ht => by rw [List.mem_singleton.mp ht]; exact ok, (fun e h => nomatch h), (fun e h => nomatch h), (fun e h => nomatch h), List.nodup_nil, (fun e h => nomatch h), .inr (by simp), by simp⟩
  refine ⟨fun m σ H3 => ∃ es ws ss z5 z6 z7, σ = [some x0, some x1, some x2, some (.ref d), some (.ref wl), z5, z6, z7] ∧ WInv P w H H3 p a b s d wl es ws ss ∧ m = (52 - es.length) * 16 + ws.length, ⟨_, [], _, _, none, none, none, rfl, winv0, rfl⟩, ?_⟩
  rintro m σ H3 ⟨es, ws, ss, z5, z6, z7, rfl, I, rfl⟩
  have bd := I.bd
  refine ⟨_, rfl, by simp, fun e H4 he hS4 he4 => ⟨.list (ss.map dS), .list [], .lst (sqL (hS4 _ _ I.hl)) (dp_all (fun v x r => ST.dp r) (I.al.mono fun _ _ z => z.kp (Kp.of hS4))), .lst (sqL he4) .nil, (fl_lst (fl_map fl_dS ss)).sh (by decide), (fl_lst (n := 0) (by simp)).sh (by decide), _, rfl, ?_⟩⟩
  rw [eqv_nilL]
  have kp4 := Kp.of hS4
  have eslen : es.length ≤ 52 := by
    have := sits_len hp.ge (L := a + b) (by omega) I.nd fun t ht => by
      obtain ⟨e, he, rfl⟩ := List.mem_map.mp ht
      exact I.eo e he
    rwa [List.length_map] at this
  by_cases hss : ss = []
  · subst hss
    refine iteF ⟨_, rfl, ?_⟩
    refine q d H4 es (I.sm.trans hS4) hd (hS4 _ _ I.hd) ⟨I.eo, fun e he => ?_, fun e he k hk t ht => ?_, I.nd, I.ks.kp kp4⟩ ?_ eslen
    · obtain ⟨g, e1, _, _, q1⟩ := I.ew e he
      exact ⟨g, e1, q1.keep kp4 fun o z => hS4 _ _ z⟩
    · exact (I.cl e he k hk t ht).elim id fun z => nomatch z
    · exact I.st.elim id fun z => nomatch z
  have hne : (!(ss.map dS).isEmpty) = true := by
    cases ss with
    | nil => exact (hss rfl).elim
    | cons _ _ => rfl
  rw [hne]
  -- the last of those that wait
  have wsl := I.al.1
  have slen : 0 < ss.length := List.length_pos_iff.mpr hss
  obtain ⟨t1, ht1⟩ : ∃ t1, ss[ss.length - 1]? = some t1 := ⟨_, List.getElem?_eq_getElem (by omega)⟩
  obtain ⟨y1, hy1, hst1⟩ := I.al.get' ht1
  have t1ok := I.so t1 (List.mem_of_getElem? ht1)
  have hwl4 := hS4 _ _ I.hl
  refine iteT ⟨fun σ' H' => ∃ m', m' < (52 - es.length) * 16 + ws.length ∧ ∃ es ws ss z5 z6 z7, σ' = [some x0, some x1, some x2, some (.ref d), some (.ref wl), z5, z6, z7] ∧ WInv P w H H' p a b s d wl es ws ss ∧ m' = (52 - es.length) * 16 + ws.length, fun σ' H' z => z, ?_⟩
  refine ⟨_, rfl, .inl ⟨rfl, _, sqL hwl4⟩, wl, ws, y1, rfl, rfl, hwl4, by rw [wsl]; exact hy1, ?_⟩
  have kpw : Kp H4 (upd H4 wl (.lst ws.dropLast)) := Kp.lst hwl4
  have hS5 : Same H (upd H4 wl (.lst ws.dropLast)) := same_put (I.sm.trans hS4) hwl0
  have hd5 : (upd H4 wl (.lst ws.dropLast)) d = some (dicO P w d es) := by rw [upd_ne hdl]; exact hS4 _ _ I.hd
  have hk5 : Kd d wl H3 (upd H4 wl (.lst ws.dropLast)) := fun g o _ n2 e => by rw [upd_ne n2]; exact hS4 _ _ e
  have kp35 : Kp H3 (upd H4 wl (.lst ws.dropLast)) := kp4.trans kpw
  generalize hH5 : upd H4 wl (.lst ws.dropLast) = H5 at kpw hS5 hd5 hk5 kp35 ⊢
  have hw5 : H5 wl = some (.lst ws.dropLast) := by rw [← hH5]; exact upd_same
  have al5 : All2 (ST H5) ws.dropLast ss.dropLast := by
    have z := (I.al.take (ws.length - 1)).mono fun _ _ z => ST.kp kp35 z
    rw [List.dropLast_eq_take, List.dropLast_eq_take]
    rwa [show ss.length - 1 = ws.length - 1 by omega]
  have so5 : ∀ t ∈ ss.dropLast, SitOk p (a + b) t := fun t ht => I.so t (List.dropLast_subset _ ht)
  have ew5 := ew_keep I.ew hk5 kp35
  have ks5 := I.ks.kp kp35
  have hst5 := hst1.kp kp35
  have split : ∀ t ∈ ss, t ∈ ss.dropLast ∨ t = t1 := fun t ht => by
    have e : ss = ss.dropLast ++ [t1] := by
      have e2 := List.dropLast_concat_getLast hss
      rw [List.getLast_eq_getElem] at e2
      have e3 := (List.getElem?_eq_some_iff.mp ht1).2
      rw [e3] at e2
      exact e2.symm
    rw [e] at ht
    rcases List.mem_append.mp ht with z | z
    · exact .inl z
    · exact .inr (List.mem_singleton.mp z)
  refine ⟨_, rfl, _, rfl, d, es, t1, rfl, .inl hd5, ks5, hst5, _, rfl, ?_⟩
  cases hf : (at_ es t1).isSome with
  | true =>
    have hthere := at_some.mp hf
    refine iteF ⟨_, ?_, es, ws.dropLast, ss.dropLast, _, z6, z7, rfl, ⟨hS5, hd5, hw5, al5, so5, I.eo, ew5, fun e he k hk t ht => ?_, I.nd, ks5, ?_, by rw [List.length_dropLast]; omega⟩, rfl⟩
    · rw [List.length_dropLast]
      omega
    · rcases I.cl e he k hk t ht with z | z
      · exact .inl z
      · rcases split t z with z | z
        · exact .inr z
        · exact .inl (by rw [z]; exact hthere)
    · rcases I.st with z | z
      · exact .inl z
      · rcases split s z with z | z
        · exact .inr z
        · exact .inl (by rw [z]; exact hthere)
  | false =>
    refine iteT ?_
    have hp5 := hp.kpS hS5
    have hn5 := hn.kp (Kp.of hS5)
    obtain ⟨ap, adx, afs, eap, hap⟩ := hp5.at_
    subst eap
    obtain ⟨a1, r1, rfl, _, _⟩ := id hst5
    have t1new : t1 ∉ es.map (·.1) := fun z => by
      obtain ⟨e, he, e2⟩ := List.mem_map.mp z
      have := at_some.mpr ⟨e, he, e2⟩
      rw [hf] at this
      exact nomatch this
    have es1nd := nd_snoc (k := t1) (a := a1) (v := .non) hf I.nd
    have es1len : es.length + 1 ≤ 52 := by
      have := sits_len hp.ge (L := a + b) (by omega) (D := t1 :: es.map (·.1)) (List.nodup_cons.mpr ⟨t1new, I.nd⟩) fun t ht => by
        rcases List.mem_cons.mp ht with z | z
        · rw [z]; exact t1ok
        · obtain ⟨e, he, rfl⟩ := List.mem_map.mp z
          exact I.eo e he
      simpa using this
    refine ⟨_, rfl, ap, _, adx, afs, rfl, rfl, hap, _, rfl, p, hp5, p.m, rfl, by omega, by simp, fun D hD => ?_⟩
    refine ⟨fun k acc H6 => Same H5 H6 ∧ acc.length = k ∧ ∀ (j : Nat) (x : V), acc[j]? = some x → ∃ ts, NT H6 x ts ∧ (∀ t, t ∈ ts ↔ LH.Next p.mv a b t1 j t) ∧ ts.length ≤ 5, ⟨same_new hD, rfl, fun j x e => by simp at e⟩, fun k H6 acc hk ⟨hS6, hal, hac⟩ hD6 => mTT.mk (yesT ?_), fun acc H6 hD6 ⟨hS6, hal, hac⟩ => ?_⟩
    · refine mTE.mk ⟨_, rfl, _, rfl, _, rfl, _, rfl, _, _, _, _, rfl, p, a, b, t1, (k : Int), hp5.kpS hS6, hn5.kp (Kp.of hS6), hst5.kp (Kp.of hS6), t1ok, rfl, by omega, by omega, fun v H7 ts hS7 hnt hmem hlen => ?_⟩
      have hD7 := hS7 _ _ hD6
      have kp7 : Kp H7 (upd H7 D (.lst (acc ++ [v]))) := Kp.lst hD7
      refine ⟨hD7, same_put (hS6.trans hS7) hD, by simp [hal], fun j x e => ?_⟩
      by_cases hj : j < acc.length
      · rw [List.getElem?_append_left hj] at e
        obtain ⟨ts', q1, q2, q3⟩ := hac j x e
        exact ⟨ts', (q1.kp (Kp.of hS7)).kp kp7, q2, q3⟩
      · rw [List.getElem?_append_right (by omega)] at e
        have hj2 : j - acc.length = 0 := by
          have := (List.getElem?_eq_some_iff.mp e).1
          simp at this
          omega
        rw [hj2] at e
        simp only [List.getElem?_cons_zero, Option.some.injEq] at e
        subst e
        have ej : j = k := by omega
        subst ej
        exact ⟨ts, hnt.kp kp7, hmem, hlen⟩
    have hd6 := hS6 _ _ hd5
    have hw6 := hS6 _ _ hw5
    have hDd : D ≠ d := fun e => by rw [e, hd5] at hD; exact nomatch hD
    have hDw : D ≠ wl := fun e => by rw [e, hw5] at hD; exact nomatch hD
    refine ⟨_, rfl, _, rfl, d, es, t1, a1, rfl, hd6, ks5.kp (Kp.of hS6), rfl, hst5.kp (Kp.of hS6), by omega, ?_⟩
    rw [put_new hf]
    generalize hes1 : es ++ [((t1, a1, .ref D) : Ent)] = es1
    have es1nd : (es1.map (·.1)).Nodup := by rw [← hes1]; exact nd_snoc hf I.nd
    have es1l : es1.length = es.length + 1 := by rw [← hes1]; simp
    have es1mem : ∀ e ∈ es1, e ∈ es ∨ e = (t1, a1, .ref D) := fun e he => by
      rw [← hes1] at he
      rcases List.mem_append.mp he with z | z
      · exact .inl z
      · exact .inr (List.mem_singleton.mp z)
    have es1old : ∀ e ∈ es, e ∈ es1 := fun e he => by rw [← hes1]; exact List.mem_append_left _ he
    have es1new : ((t1, a1, .ref D) : Ent) ∈ es1 := by rw [← hes1]; simp
    obtain ⟨H7, e7⟩ : ∃ H7, H7 = upd H6 d (dicO P w d es1) := ⟨_, rfl⟩
    have kp7 : Kp H6 H7 := by rw [e7]; exact Kp.put hd6 fun z => z
    have hS7 : Same H H7 := by rw [e7]; exact same_put (hS5.trans hS6) hd
    have hk7 : Kd d wl H6 H7 := fun g o n1 _ e => by rw [e7, upd_ne n1]; exact e
    have hd7 : H7 d = some (dicO P w d es1) := by rw [e7]; exact upd_same
    have hw7 : H7 wl = some (.lst ws.dropLast) := by rw [e7, upd_ne (Ne.symm hdl)]; exact hw6
    have hD7 : H7 D = some (.lst acc) := by rw [e7, upd_ne hDd]; exact hD6
    have k57 : Kd d wl H5 H7 := (Kd.of hS6).trans hk7
    have kp57 : Kp H5 H7 := (Kp.of hS6).trans kp7
    have st7 := hst5.kp kp57
    have ks7 : KeysOk H7 es1 := fun e he => by
      rcases es1mem e he with z | z
      · exact (ks5 e z).kp kp57
      · rw [z]; exact st7
    have wl7 : WL H7 D p a b t1 := ⟨acc, hD7, hal, fun k x e => let ⟨ts, q1, q2, q3⟩ := hac k x e; ⟨ts, q1.kp kp7, q2, q3⟩⟩
    have ew7 : ∀ e ∈ es1, ∃ g, e.2.2 = .ref g ∧ g ≠ d ∧ g ≠ wl ∧ WL H7 g p a b e.1 := fun e he => by
      rcases es1mem e he with z | z
      · exact ew_keep ew5 k57 kp57 e z
      · rw [z]; exact ⟨D, rfl, hDd, hDw, wl7⟩
    have al7 : All2 (ST H7) ws.dropLast ss.dropLast := al5.mono fun _ _ z => z.kp kp57
    have wsdl : ws.dropLast.length = ws.length - 1 := List.length_dropLast
    have at1 : at_ es1 t1 = some (.ref D) := at_of es1nd es1new
    subst e7
    refine ⟨_, rfl, _, rfl, d, es1, t1, _, rfl, .inl hd7, ks7, st7, at1, D, rfl, ⟨acc, sqL hD7⟩, for_list (xs := acc) (fun k σ H8 => ∃ z7 ws8 ss8, σ = [some (.ref ap), some x1, some x2, some (.ref d), some (.ref wl), some (.ref a1), z6, z7] ∧ Kd d wl (upd H6 d (dicO P w d es1)) H8 ∧ H8 d = some (dicO P w d es1) ∧ H8 wl = some (.lst ws8) ∧ All2 (ST H8) ws8 ss8 ∧ (∀ t ∈ ss8, SitOk p (a + b) t) ∧ (∀ t ∈ ss.dropLast, t ∈ ss8) ∧ (∀ j : Nat, j < k → ∀ t, LH.Next p.mv a b t1 j t → t ∈ ss8) ∧ ws8.length ≤ (ws.length - 1) + 5 * k ∧ Same H H8)
      ⟨z7, _, _, rfl, fun _ _ _ _ e => e, hd7, hw7, al7, so5, fun _ z => z, fun j hj => by omega, by omega, hS7⟩ (fun k σ H8 _ ⟨_, _, _, _, z, _⟩ => sqL (z _ _ hDd hDw hD7)) (fun k x σ H8 hx ⟨z7, ws8, ss8, e8, k8, d8, w8, al8, so8, sub8, nx8, len8, sm8⟩ => ?_) fun σ H8 ⟨z7, ws8, ss8, e8, k8, d8, w8, al8, so8, sub8, nx8, len8, sm8⟩ => ?_⟩
    · subst e8
      obtain ⟨ts, ⟨b9, zs, rfl, hb9, hz9⟩, hmem, hlen⟩ := hac k x hx
      have kk : k < p.m := by
        have := (List.getElem?_eq_some_iff.mp hx).1
        omega
      have kp8 : Kp (upd H6 d (dicO P w d es1)) H8 := k8.kp hd7 hw7
      have hb10 := (kp7.trans kp8) _ _ hb9 True.intro
      have zl := hz9.1
      have wdl : ws.length ≤ 833 := by omega
      refine ⟨_, rfl, .inl ⟨rfl, _, sqL w8⟩, _, rfl, wl, b9, ws8, zs, rfl, rfl, w8, sqT hb10, by omega, ?_⟩
      have kp9 : Kp H8 (upd H8 wl (.lst (ws8 ++ zs))) := Kp.lst w8
      refine ⟨_, ws8 ++ zs, ss8 ++ ts, rfl, k8.trans fun g o _ n2 e => by rw [upd_ne n2]; exact e, by rw [upd_ne hdl]; exact d8, upd_same, (al8.mono fun _ _ z => z.kp kp9).append (hz9.mono fun _ _ z => z.kp ((kp7.trans kp8).trans kp9)), fun t ht => ?_, fun t ht => List.mem_append_left _ (sub8 t ht), fun j hj t ht => ?_, ?_, same_put sm8 hwl0⟩
      · rcases List.mem_append.mp ht with z | z
        · exact so8 t z
        · exact next_ok hp.ge t1ok (by omega) (by omega) ((hmem t).mp z)
      · by_cases ej : j = k
        · subst ej
          exact List.mem_append_right _ ((hmem t).mpr ht)
        · exact List.mem_append_left _ (nx8 j (by omega) t ht)
      · rw [List.length_append]
        omega
    · subst e8
      have kp8 : Kp (upd H6 d (dicO P w d es1)) H8 := k8.kp hd7 hw7
      rw [hal] at nx8 len8
      refine ⟨_, ?_, es1, ws8, ss8, _, _, z7, rfl, ⟨sm8, d8, w8, al8, so8, fun e he => ?_, ew_keep ew7 k8 kp8, fun e he k hk t ht => ?_, es1nd, ks7.kp kp8, ?_, ?_⟩, rfl⟩
      · omega
      · rcases es1mem e he with z | z
        · exact I.eo e z
        · rw [z]; exact t1ok
      · rcases es1mem e he with z | z
        · rcases I.cl e z k hk t ht with ⟨e', h1, h2⟩ | z
          · exact .inl ⟨e', es1old e' h1, h2⟩
          · rcases split t z with z | z
            · exact .inr (sub8 t z)
            · exact .inl ⟨_, es1new, z.symm⟩
        · rw [z] at ht
          exact .inr (nx8 k hk t ht)
      · rcases I.st with ⟨e', h1, h2⟩ | z
        · exact .inl ⟨e', es1old e' h1, h2⟩
        · rcases split s z with z | z
          · exact .inr (sub8 s z)
          · exact .inl ⟨_, es1new, z.symm⟩
      · omega
end Lh
set_option Elab.async false
set_option linter.all false
set_option maxRecDepth 100000
set_option maxHeartbeats 4000000
/-! ranks. -/
namespace Lh
open PySem PySem.Spec PyProof.Rows L2
theorem rd_same {H H' : Hp} {d : Addr} {u : HO} (h : Rd H d u) (s : Same H H') : Rd H' d u := h.elim (fun e => .inl (s _ _ e)) fun ⟨o, e⟩ => .inr ⟨o, s _ _ e⟩
theorem any_map {α : Type} (f : α → Bool) : ∀ l : List α, (l.map f).any id = l.any f
  | [] => rfl
  | a :: l => by
    rw [List.map_cons, List.any_cons, List.any_cons, any_map f l]
    rfl
def sp_is_defeated (P : Program) (w : World) (K : PySem.W.Frag) : Sp := fun vs H Q _ => ∃ x0 x1, vs = [x0, x1] ∧ ∃ (d l : Addr) (rs : List Ent) (p : Pd) (a b : Nat) (s : Sit), x0 = .ref d ∧ x1 = .ref l ∧ Rd H d (dicO P w d rs) ∧ KeysOk H rs ∧ WL H l p a b s ∧ p.m ≤ 3 ∧
  ∀ bb H', Same H H' → (bb = true ↔ ∀ k : Nat, k < p.m → ∃ t, LH.Next p.mv a b s k t ∧ (at_ rs t).isSome = true) → Q (.bl bb) H'
theorem ok_is_defeated {P : Program} {w : World} {K : PySem.W.Frag} {mg : Str → Option Value} {base : Heap} (T : Tx K mg) : Fn P w K mg base 1 (He.ga K "is_defeated") (sp_is_defeated P w K) := by
  obtain ⟨fd, F⟩ := T.d_is_defeated
  have hb : Binds K fd ["ranks", "ways"] [] := F.bindsN fun _ _ _ _ _ _ us hl => match us, hl with | [_, _], _ => rfl
  refine fn_def F sc_is_defeated hb (fun vs H Q E h => by obtain ⟨_, _, rfl, _⟩ := h; rfl) fun cdv A outer s H vs Q E hr h => ⟨_, PSs.nox (pss_one (ps_ret (pe_callB (kx_all (K := K) rfl) rfl T.b_all boot_all (pa_cons (kx_lc (K := K) (ce_lc .l rfl sc_is_defeated.nd (pv 1) (blkOk_by (own := [("later", 3)]) (N := n_is_defeated) (sc := defScope s_is_defeated) (by decide +kernel)) (fun _ _ _ _ _ => pg_name (i := 3) sc_is_defeated.nd rfl (Or.inl rfl)) (fun _ _ _ _ _ => pts_nil) (fun _ _ _ _ _ => (pe_callB (kx_any (K := K) rfl) rfl T.b_any boot_any (pa_cons (kx_lc (K := K) (ce_lc .t rfl sc_is_defeated.nd (pv 3) (blkOk_by (own := [("one", 2)]) (by kernel_rfl)) (fun _ _ _ _ _ => pg_name (i := 2) sc_is_defeated.nd rfl (Or.inl rfl)) (fun _ _ _ _ _ => pts_nil) (fun _ _ _ _ _ => (pe_cmpR (kx_inS (P := P) (w := w) hr.units) (pv 2) (pv 0) (by rfl))))) pa_nil))))) pa_nil)))), ?_⟩
  obtain ⟨x0, x1, rfl, h⟩ := h
  obtain ⟨d, l, rs, p, a, b, s, rfl, rfl, hd, hk, ⟨xs, hl, hlen, hxs⟩, m3, q⟩ := h
  refine ⟨_, rfl, l, xs, rfl, sqL hl, by omega, by simp, fun k acc _ => ∃ bs : List Bool, acc = bs.map V.bl ∧ bs.length = k ∧ ∀ (j : Nat) (bj : Bool), bs[j]? = some bj → (bj = true ↔ ∃ t, LH.Next p.mv a b s j t ∧ (at_ rs t).isSome = true), ⟨[], rfl, rfl, fun j bj e => by simp at e⟩, fun _ _ _ _ _ z => z, fun k x H2 acc hx hR hS => mTT.mk (yesT ?_), fun D acc H2 hD hS hdd hR => ?_⟩
  · obtain ⟨ts, ⟨c, zs, rfl, hc, hz⟩, hmem, hlen5⟩ := hxs k x hx
    have hzl := hz.1
    have hc2 := hS _ _ hc
    refine mTE.mk ⟨_, rfl, c, zs, rfl, sqT hc2, by omega, by simp, fun m acc _ => acc = ((ts.take m).map fun t => (at_ rs t).isSome).map V.bl, by simp, fun _ _ _ _ _ z => z, fun m z H3 acc hz3 hR3 hS3 => mTT.mk (yesT ?_), fun D acc H3 hD hS3 hdd hR3 => ?_⟩
    · obtain ⟨t, ht, hst⟩ := hz.get hz3
      refine mTE.mk ⟨_, rfl, _, rfl, d, rs, t, rfl, rd_same (rd_same hd hS) hS3, hk.kp (Kp.of (hS.trans hS3)), hst.kp (Kp.of (hS.trans hS3)), fun _ _ e => e, ?_⟩
      have hR3 : _ = _ := hR3
      dsimp only
      rw [hR3, List.take_add_one, ht]
      simp
    · have hR3 : acc = _ := hR3
      rw [List.take_of_length_le (by omega)] at hR3
      subst hR3
      refine ⟨D, _, rfl, sqL hdd, hS3, ?_⟩
      obtain ⟨bs, e1, e2, e3⟩ := hR
      refine ⟨bs ++ [_], by rw [e1, List.map_append]; rfl, by simp [e2], fun j bj e => ?_⟩
      by_cases hj : j < bs.length
      · rw [List.getElem?_append_left hj] at e
        exact e3 j bj e
      · rw [List.getElem?_append_right (by omega)] at e
        have hj2 : j - bs.length = 0 := by
          have := (List.getElem?_eq_some_iff.mp e).1
          simp at this
          omega
        rw [hj2] at e
        simp only [List.getElem?_cons_zero, Option.some.injEq] at e
        have ej : j = k := by omega
        rw [← e, ej, any_map, List.any_eq_true]
        exact ⟨fun ⟨t, h1, h2⟩ => ⟨t, (hmem t).mp h1, h2⟩, fun ⟨t, h1, h2⟩ => ⟨t, (hmem t).mpr h1, h2⟩⟩
  · obtain ⟨bs, e1, e2, e3⟩ := hR
    subst e1
    refine ⟨D, bs, rfl, sqL hdd, q _ _ hS ?_⟩
    rw [List.all_eq_true]
    refine ⟨fun h k hk => ?_, fun h bj hb => ?_⟩
    · have e := List.getElem?_eq_getElem (l := bs) (i := k) (by omega)
      exact (e3 k _ e).mp (h _ (List.getElem_mem _))
    · obtain ⟨j, hj⟩ := List.mem_iff_getElem?.mp hb
      have := (List.getElem?_eq_some_iff.mp hj).1
      exact (e3 j bj hj).mpr (h j (by omega))
/-- what the ranks say -/
structure Rnk (p : Pd) (a b : Nat) (rs : List Ent) : Prop where
  nd : (rs.map (·.1)).Nodup
  v : ∀ e ∈ rs, ∃ n : Nat, e.2.2 = .int n ∧ (n = 0 → ¬ LH.Clear p.mv p.bad e.1) ∧ (0 < n → ∀ k : Nat, k < p.m → ∃ t n', LH.Next p.mv a b e.1 k t ∧ at_ rs t = some (.int (n' : Nat)) ∧ n' < n)
structure RInv (H : Hp) (p : Pd) (a b : Nat) (es rs : List Ent) (n : Nat) (fs : List Sit) : Prop where
  r : Rnk p a b rs
  lt : ∀ e ∈ rs, ∃ j : Nat, e.2.2 = .int j ∧ j < n
  sub : ∀ e ∈ rs, ∃ e' ∈ es, e'.1 = e.1
  ks : KeysOk H rs
  fn : fs.Nodup
  fe : ∀ f ∈ fs, ∃ e ∈ es, e.1 = f
  fd : ∀ f ∈ fs, (at_ rs f).isSome = false
  f0 : n = 0 → ∀ f ∈ fs, ¬ LH.Clear p.mv p.bad f
  f1 : 0 < n → ∀ f ∈ fs, ∀ k : Nat, k < p.m → ∃ t, LH.Next p.mv a b f k t ∧ (at_ rs t).isSome = true
  c : ∀ e ∈ es, (at_ rs e.1).isSome = false → e.1 ∈ fs ∨ (LH.Clear p.mv p.bad e.1 ∧ ∃ k : Nat, k < p.m ∧ ∀ t, LH.Next p.mv a b e.1 k t → (at_ rs t).isSome = false)
/-- all ranked, the rest is kept -/
def Done (p : Pd) (a b : Nat) (es rs : List Ent) : Prop := Rnk p a b rs ∧ (∀ e ∈ rs, ∃ e' ∈ es, e'.1 = e.1) ∧ ∀ e ∈ es, (at_ rs e.1).isSome = false → LH.Clear p.mv p.bad e.1 ∧ ∃ k : Nat, k < p.m ∧ ∀ t, LH.Next p.mv a b e.1 k t → (at_ rs t).isSome = false
def sp_ranks_in (P : Program) (w : World) (K : PySem.W.Frag) : Sp := fun vs H Q _ => ∃ x0 x1, vs = [x0, x1] ∧ ∃ (p : Pd) (a b : Nat) (d : Addr) (es : List Ent), PL K H x0 p ∧ a + b ≤ 2 ∧ x1 = .ref d ∧ H d = some (dicO P w d es) ∧ Ways H p a b es ∧ es.length ≤ 52 ∧
  ∀ d' H' rs, Same H H' → H d' = none → H' d' = some (dicO P w d' rs) → KeysOk H' rs → Done p a b es rs → Q (.ref d') H'
/-- those keys of the first entries of which it holds -/
structure Fil (cond : Sit → Prop) (es : List Ent) (k : Nat) (fs : List Sit) : Prop where
  m : ∀ f, f ∈ fs ↔ ∃ e ∈ es.take k, e.1 = f ∧ cond f
  s : fs.Sublist ((es.take k).map fun (e : Ent) => e.1)
theorem Fil.zero {cond : Sit → Prop} {es : List Ent} : Fil cond es 0 [] := ⟨fun f => by simp, by simp⟩
theorem take_succ' {α : Type} {l : List α} {k : Nat} {x : α} (h : l[k]? = some x) : l.take (k + 1) = l.take k ++ [x] := by
  rw [List.take_add_one, h]
  rfl
theorem Fil.add {cond : Sit → Prop} {es : List Ent} {k : Nat} {fs : List Sit} {e : Ent} (h : Fil cond es k fs) (he : es[k]? = some e) (c : cond e.1) : Fil cond es (k + 1) (fs ++ [e.1]) := by
  refine ⟨fun f => ?_, ?_⟩
  · rw [take_succ' he, List.mem_append, h.m f, List.mem_singleton]
    refine ⟨fun z => ?_, fun ⟨x, hx, e1, e2⟩ => ?_⟩
    · rcases z with ⟨x, hx, q⟩ | z
      · exact ⟨x, List.mem_append_left _ hx, q⟩
      · exact ⟨e, by simp, z.symm, by rw [z]; exact c⟩
    · rcases List.mem_append.mp hx with z | z
      · exact .inl ⟨x, z, e1, e2⟩
      · rw [List.mem_singleton.mp z] at e1
        exact .inr e1.symm
  · rw [take_succ' he, List.map_append]
    exact h.s.append (List.Sublist.refl _)
theorem Fil.skip {cond : Sit → Prop} {es : List Ent} {k : Nat} {fs : List Sit} {e : Ent} (h : Fil cond es k fs) (he : es[k]? = some e) (c : ¬ cond e.1) : Fil cond es (k + 1) fs := by
  refine ⟨fun f => ?_, ?_⟩
  · rw [take_succ' he, h.m f]
    refine ⟨fun ⟨x, hx, q⟩ => ⟨x, List.mem_append_left _ hx, q⟩, fun ⟨x, hx, e1, e2⟩ => ?_⟩
    rcases List.mem_append.mp hx with z | z
    · exact ⟨x, z, e1, e2⟩
    · rw [List.mem_singleton.mp z] at e1
      exact (c (by rw [e1]; exact e2)).elim
  · rw [take_succ' he, List.map_append]
    exact h.s.trans (List.sublist_append_left _ _)
theorem Fil.all {cond : Sit → Prop} {es : List Ent} {fs : List Sit} (h : Fil cond es es.length fs) : ∀ f, f ∈ fs ↔ ∃ e ∈ es, e.1 = f ∧ cond f := fun f => by
  rw [h.m f, List.take_length]
theorem Fil.nd {cond : Sit → Prop} {es : List Ent} {fs : List Sit} (h : Fil cond es es.length fs) (nd : (es.map (·.1)).Nodup) : fs.Nodup := by
  have s := h.s
  rw [List.take_length] at s
  exact s.nodup nd
theorem at_ext {rs rs' : List Ent} (nd' : (rs'.map (·.1)).Nodup) (sub : ∀ e ∈ rs, e ∈ rs') {t : Sit} {v : V} (h : at_ rs t = some v) : at_ rs' t = some v := by
  obtain ⟨e, he, e1, e2⟩ := at_mem h
  rw [← e1, ← e2]
  exact at_of nd' (sub e he)
theorem ok_ranks_in {P : Program} {w : World} {K : PySem.W.Frag} {mg : Str → Option Value} {base : Heap} (T : Tx K mg) : Fn P w K mg base 7 (He.ga K "ranks_in") (sp_ranks_in P w K) := by
  obtain ⟨fd, F⟩ := T.d_ranks_in
  have hb : Binds K fd ["plant", "ways"] [] := F.bindsN fun _ _ _ _ _ _ us hl => match us, hl with | [_, _], _ => rfl
  refine fn_def F sc_ranks_in hb (fun vs H Q E h => by obtain ⟨_, _, rfl, _⟩ := h; rfl) fun cdv A outer s H vs Q E hr h => ⟨_, PSs.nox (pss_cons (ps_asg (ce_tup (pa_cons ce_dnewS (pa_cons pe_int (pa_cons (ce_lcD (j := 1) rfl sc_ranks_in.nd rfl (by first | exact Or.inl rfl | exact Or.inr (Or.inl rfl)) (blkOk_by (own := [("one", 5)]) (N := n_ranks_in) (sc := defScope s_ranks_in) (by decide +kernel)) (fun _ _ _ _ _ => pg_name (i := 5) sc_ranks_in.nd rfl (Or.inl rfl)) (fun _ _ _ _ _ => (pts_one (pt_not (pt_val (ce_call (ok_is_clear (P := P) (w := w) T) (hr.mono (by decide)) rfl T.g_is_clear (pa_cons (pv 0) (pa_cons (pv 5) pa_nil))))))) (fun _ _ _ _ _ => (pv 5))) pa_nil)))) (pg_tup rfl (pgs_cons (pg_name (i := 2) sc_ranks_in.nd rfl (by first | exact Or.inl rfl | exact Or.inr rfl)) (pgs_cons (pg_name (i := 3) sc_ranks_in.nd rfl (by first | exact Or.inl rfl | exact Or.inr rfl)) (pgs_cons (pg_name (i := 4) sc_ranks_in.nd rfl (by first | exact Or.inl rfl | exact Or.inr rfl)) pgs_nil)))))
      (pss_cons (ps_while PassesOwn.never (pt_cmpR (kx_neD (K := K) hr.units) (pv 4) (ce_lst pa_nil) (nomark _)) (pss_cons (ps_for PassesOwn.never rfl (pi_list (pv 4)) (pg_name (i := 5) sc_ranks_in.nd rfl (by first | exact Or.inl rfl | exact Or.inr rfl)) (pss_one (ps_asg (pv 3) (pg_sub (pv 2) (pv 5) (set_dicS hr.units)))))
      (pss_cons (ps_set (i := 3) sc_ranks_in.nd rfl (by first | exact Or.inl rfl | exact Or.inr rfl) (pe_op op_add (pv 3) pe_int))
      (pss_one (cs_lcD (j := 1) (l := 4) rfl sc_ranks_in.nd rfl rfl (sw_true rfl rfl rfl (by decide +kernel)) rfl (by first | exact Or.inl rfl | exact Or.inr (Or.inl rfl)) (blkOk_by (own := [("one", 5)]) (N := n_ranks_in) (sc := defScope s_ranks_in) (by decide +kernel)) (fun _ _ _ _ _ => pg_name (i := 5) sc_ranks_in.nd rfl (Or.inl rfl)) (fun _ _ _ _ _ => (pts_one (PW.pt (pw_and (pt_cmpR (kx_notInS (P := P) (w := w) hr.units) (pv 5) (pv 2) (by rfl)) (pw_and1 (pt_val (ce_call (ok_is_defeated (P := P) (w := w) T) (hr.mono (by decide)) rfl T.g_is_defeated (pa_cons (pv 2) (pa_cons (pe_ix (kx_dic (P := P) (w := w) hr.units) (pv 1) (pv 5) (fun _ _ => rfl)) pa_nil))))))))) (fun _ _ _ _ _ => (pv 5)))))))
      (pss_one (ps_ret (pv 2))))), ?_⟩
  obtain ⟨x0, x1, rfl, h⟩ := h
  obtain ⟨p, a, b, d, es, hp, hab, rfl, hd, W, elen, q⟩ := h
  have m1 := hp.ge.wf.m1
  have m3 := hp.ge.wf.m3
  intro d2 H1 hd2 hS1 hd21
  have hdH1 := hS1 _ _ hd
  have W1 := W.same hS1
  have hdd : d2 ≠ d := fun e => by rw [e, hd] at hd2; exact nomatch hd2
  have kpd : ∀ {H3 H4 : Hp}, H3 d = some (dicO P w d es) → (∀ b o, b ≠ d → H3 b = some o → H4 b = some o) → Kp H3 H4 := fun {H3 H4} e k g o eg f => by
    refine k g o (fun z => ?_) eg
    subst z
    rw [e] at eg
    cases eg
    exact f
  refine ⟨d, es, rfl, hdH1, by omega, by simp, fun k acc H2 => ∃ fs : List Sit, All2 (ST H2) acc fs ∧ Fil (fun f => ¬ LH.Clear p.mv p.bad f) es k fs, ⟨[], .nil, Fil.zero⟩, fun k acc H2 H3 kp ⟨fs, h1, h2⟩ => ⟨fs, h1.mono fun _ _ z => z.kp kp, h2⟩, fun k e H2 acc he ⟨fs, hfs, hfil⟩ hrd hk2 => ?_, fun F acc H2 hF hS2 hF2 ⟨fs, hfs, hfil⟩ => ?_⟩
  · have kp2 := kpd hdH1 hk2
    have hem := List.mem_of_getElem? he
    refine mTT.mk ⟨_, rfl, _, rfl, _, _, rfl, p, e.1, a + b, (hp.kpS hS1).kp kp2, (W1.ks e hem).kp kp2, W1.ok e hem, fun bb H3 hS3 hiff => ⟨bb, rfl, ?_⟩⟩
    cases bb with
    | true => exact iteF ⟨hS3, fs, hfs.mono fun _ _ z => z.kp (Kp.of hS3), hfil.skip he fun z => z (hiff.mp rfl)⟩
    | false => exact iteT (mTE.mk ⟨_, rfl, hS3, fs ++ [e.1], (hfs.mono fun _ _ z => z.kp (Kp.of hS3)).snoc ((W1.ks e hem).kp (kp2.trans (Kp.of hS3))), hfil.add he fun z => by cases hiff.mpr z⟩)
  refine ⟨by simp, fun t H3 ht hS3 ht3 => ⟨t, _, rfl, sqT ht3, rfl, _, _, rfl, _, _, rfl, _, _, rfl, rfl, ?_⟩⟩
  have hall := hfil.all
  have inv0 : RInv H3 p a b es [] 0 fs := ⟨⟨List.nodup_nil, fun e h => nomatch h⟩, (fun e h => nomatch h), (fun e h => nomatch h), (fun e h => nomatch h), hfil.nd W.nd, fun f hf => let ⟨e, h1, h2, _⟩ := (hall f).mp hf; ⟨e, h1, h2⟩, fun f _ => rfl, fun _ f hf => let ⟨e, h1, h2, h3⟩ := (hall f).mp hf; h3, fun h => absurd h (Nat.lt_irrefl 0), fun e he _ => by
    by_cases hc : LH.Clear p.mv p.bad e.1
    · exact .inr ⟨hc, 0, by omega, fun t _ => rfl⟩
    · exact .inl ((hall e.1).mpr ⟨e, he, rfl, hc⟩)⟩
  have hS13 : Same H1 H3 := hS2.trans hS3
  refine ⟨fun m σ H4 => ∃ rs n fs vs F z5, σ = [some x0, some (.ref d), some (.ref d2), some (.int (n : Nat)), some (.ref F), z5] ∧ Same H H4 ∧ H4 d2 = some (dicO P w d2 rs) ∧ H4 F = some (.lst vs) ∧ All2 (ST H4) vs fs ∧ RInv H4 p a b es rs n fs ∧ m = 53 - rs.length,
    ⟨_, [], 0, fs, acc, F, _, rfl, hS1.trans hS13, hS13 _ _ hd21, hS3 _ _ hF2, hfs.mono fun _ _ z => z.kp (Kp.of hS3), inv0, rfl⟩, ?_⟩
  rintro m σ H4 ⟨rs, n, fs, vs, F, z5, rfl, hS4, hd24, hF4, hal4, I, rfl⟩
  have rlen : rs.length ≤ 52 := by
    have := nodup_len (D := rs.map (·.1)) (U := es.map (·.1)) I.r.nd fun t ht => by
      obtain ⟨e, he, rfl⟩ := List.mem_map.mp ht
      obtain ⟨e', h1, h2⟩ := I.sub e he
      exact List.mem_map.mpr ⟨e', h1, h2⟩
    rw [List.length_map, List.length_map] at this
    omega
  refine ⟨_, rfl, by simp, fun em H5 hem hS5 he5 => ⟨.list (fs.map dS), .list [], .lst (sqL (hS5 _ _ hF4)) (dp_all (fun v x r => ST.dp r) (hal4.mono fun _ _ z => z.kp (Kp.of hS5))), .lst (sqL he5) .nil, (fl_lst (fl_map fl_dS fs)).sh (by decide), (fl_lst (n := 0) (by simp)).sh (by decide), _, rfl, ?_⟩⟩
  rw [eqv_nilL]
  have ks5 := I.ks.kp (Kp.of hS5)
  have hd25 := hS5 _ _ hd24
  by_cases hfe : fs = []
  · subst hfe
    refine iteF ⟨_, rfl, q d2 H5 rs (hS4.trans hS5) hd2 hd25 ks5 ⟨I.r, I.sub, fun e he hn => (I.c e he hn).elim (fun z => nomatch z) id⟩⟩
  have hne : (!(fs.map dS).isEmpty) = true := by
    cases fs with
    | nil => exact (hfe rfl).elim
    | cons _ _ => rfl
  rw [hne]
  have flen : 0 < fs.length := List.length_pos_iff.mpr hfe
  have hF5 := hS5 _ _ hF4
  have al5 : All2 (ST H5) vs fs := hal4.mono fun _ _ z => z.kp (Kp.of hS5)
  have vlen := al5.1
  have hFd : F ≠ d2 := fun e => by rw [e, hd25] at hF5; exact nomatch hF5
  have sub52 : ∀ rs' : List Ent, (rs'.map (·.1)).Nodup → (∀ e ∈ rs', ∃ e' ∈ es, e'.1 = e.1) → rs'.length ≤ 52 := fun rs' nd hsub => by
    have := nodup_len (D := rs'.map (·.1)) (U := es.map (·.1)) nd fun t ht => by
      obtain ⟨e, he, rfl⟩ := List.mem_map.mp ht
      obtain ⟨e', h1, h2⟩ := hsub e he
      exact List.mem_map.mpr ⟨e', h1, h2⟩
    rw [List.length_map, List.length_map] at this
    omega
  refine iteT ⟨fun σ' H' => ∃ m', m' < 53 - rs.length ∧ ∃ rs n fs vs F z5, σ' = [some x0, some (.ref d), some (.ref d2), some (.int (n : Nat)), some (.ref F), z5] ∧ Same H H' ∧ H' d2 = some (dicO P w d2 rs) ∧ H' F = some (.lst vs) ∧ All2 (ST H') vs fs ∧ RInv H' p a b es rs n fs ∧ m' = 53 - rs.length, fun σ' H' z => z, ?_⟩
  refine ⟨_, rfl, F, rfl, ⟨vs, sqL hF5⟩, for_list (xs := vs) (fun k σ H6 => ∃ z5 rs', σ = [some x0, some (.ref d), some (.ref d2), some (.int (n : Nat)), some (.ref F), z5] ∧ Same H H6 ∧ H6 d2 = some (dicO P w d2 rs') ∧ (∀ g o, g ≠ d2 → H5 g = some o → H6 g = some o) ∧ KeysOk H6 rs' ∧ (rs'.map (·.1)).Nodup ∧ (∀ e ∈ rs, e ∈ rs') ∧ (∀ e ∈ rs', e ∈ rs ∨ ∃ j, j < k ∧ fs[j]? = some e.1 ∧ e.2.2 = .int n) ∧ (∀ j, j < k → ∀ f, fs[j]? = some f → ∃ e ∈ rs', e.1 = f) ∧ rs'.length = rs.length + k)
    ⟨_, rs, rfl, hS4.trans hS5, hd25, fun _ _ _ e => e, ks5, I.r.nd, fun _ z => z, fun e he => .inl he, fun j hj => absurd hj (Nat.not_lt_zero _), rfl⟩ (fun k σ H6 _ ⟨_, _, _, _, _, z, _⟩ => sqL (z _ _ hFd hF5)) (fun k x σ H6 hx ⟨z5, rs', e6, hS6, hd6, hk6, ks6, nd6, sub6, old6, new6, len6⟩ => ?_) fun σ H6 ⟨z5, rs', e6, hS6, hd6, hk6, ks6, nd6, sub6, old6, new6, len6⟩ => ?_⟩
  · subst e6
    obtain ⟨f, hf, hst⟩ := al5.get hx
    have kp56 : Kp H5 H6 := fun g o eg fx => hk6 g o (fun z => by
      subst z
      rw [hd25] at eg
      cases eg
      exact fx) eg
    have hst6 := hst.kp kp56
    obtain ⟨a1, r1, rfl, _, _⟩ := id hst6
    have fmem := List.mem_of_getElem? hf
    have fnew : (at_ rs' f).isSome = false := by
      refine Bool.eq_false_iff.mpr fun z => ?_
      obtain ⟨e, he, e1⟩ := at_some.mp z
      rcases old6 e he with h1 | ⟨j, hj, h1, _⟩
      · have h2 := I.fd f fmem
        rw [at_some.mpr ⟨e, h1, e1⟩] at h2
        exact nomatch h2
      · rw [e1] at h1
        have hlj := (List.getElem?_eq_some_iff.mp h1).1
        have e3 : j = k := (List.getElem?_inj hlj I.fn).mp (h1.trans hf.symm)
        omega
    have l52 := sub52 rs' nd6 fun e he => by
      rcases old6 e he with h1 | ⟨j, hj, h1, _⟩
      · exact I.sub e h1
      · exact I.fe _ (List.mem_of_getElem? h1)
    refine ⟨_, rfl, _, rfl, _, rfl, d2, rs', f, a1, rfl, hd6, ks6, rfl, hst6, by omega, ?_⟩
    rw [put_new fnew]
    have kp7 : Kp H6 (upd H6 d2 (dicO P w d2 (rs' ++ [((f, a1, .int n) : Ent)]))) := Kp.put hd6 fun z => z
    refine ⟨_, rs' ++ [((f, a1, .int n) : Ent)], rfl, same_put hS6 hd2, upd_same, fun g o hg eg => by rw [upd_ne hg]; exact hk6 g o hg eg, fun e he => ?_, nd_snoc fnew nd6, fun e he => List.mem_append_left _ (sub6 e he), fun e he => ?_, fun j hj g hg => ?_, by simp [len6]; omega⟩
    · rcases List.mem_append.mp he with z | z
      · exact (ks6 e z).kp kp7
      · rw [List.mem_singleton.mp z]
        exact hst6.kp kp7
    · rcases List.mem_append.mp he with z | z
      · exact (old6 e z).imp id fun ⟨j, h1, h2⟩ => ⟨j, by omega, h2⟩
      · rw [List.mem_singleton.mp z]
        exact .inr ⟨k, by omega, hf, rfl⟩
    · by_cases ej : j = k
      · subst ej
        rw [hf] at hg
        cases hg
        exact ⟨(f, a1, .int n), by simp, rfl⟩
      · obtain ⟨e, he, e1⟩ := new6 j (by omega) g hg
        exact ⟨e, List.mem_append_left _ he, e1⟩
  · subst e6
    have new6' : ∀ f ∈ fs, ∃ e ∈ rs', e.1 = f := fun f hf => by
      obtain ⟨j, hj⟩ := List.mem_iff_getElem?.mp hf
      exact new6 j (by have := (List.getElem?_eq_some_iff.mp hj).1; omega) f hj
    have old6' : ∀ e ∈ rs', e ∈ rs ∨ (e.1 ∈ fs ∧ e.2.2 = .int n) := fun e he => (old6 e he).imp id fun ⟨j, _, h1, h2⟩ => ⟨List.mem_of_getElem? h1, h2⟩
    have sub6e : ∀ e ∈ rs', ∃ e' ∈ es, e'.1 = e.1 := fun e he => by
      rcases old6' e he with h1 | ⟨h1, _⟩
      · exact I.sub e h1
      · exact I.fe _ h1
    have l52 := sub52 rs' nd6 sub6e
    have isSome_old : ∀ t, (at_ rs t).isSome = true → ∃ j : Nat, at_ rs' t = some (.int j) ∧ j < n := fun t ht => by
      obtain ⟨e, he, e1⟩ := at_some.mp ht
      obtain ⟨j, h1, h2⟩ := I.lt e he
      refine ⟨j, ?_, h2⟩
      rw [← e1, ← h1]
      exact at_of nd6 (sub6 e he)
    have rnk6 : Rnk p a b rs' := ⟨nd6, fun e he => by
      rcases old6' e he with h1 | ⟨h1, h2⟩
      · obtain ⟨j, q1, q2, q3⟩ := I.r.v e h1
        exact ⟨j, q1, q2, fun hj k hk => let ⟨t, n', w1, w2, w3⟩ := q3 hj k hk; ⟨t, n', w1, at_ext nd6 sub6 w2, w3⟩⟩
      · refine ⟨n, h2, fun h0 => I.f0 h0 _ h1, fun h0 k hk => ?_⟩
        obtain ⟨t, w1, w2⟩ := I.f1 h0 _ h1 k hk
        obtain ⟨j, w3, w4⟩ := isSome_old t w2
        exact ⟨t, j, w1, w3, w4⟩⟩
    refine ⟨_, rfl, (n : Int), 1, rfl, rfl, ?_⟩
    have hd6d : H6 d = some (dicO P w d es) := hS6 _ _ hd
    have W6 := W.same hS6
    refine ⟨d, es, rfl, hd6d, by omega, by simp, fun k acc H7 => ∃ fs' : List Sit, All2 (ST H7) acc fs' ∧ Fil (fun f => (at_ rs' f).isSome = false ∧ ∀ k : Nat, k < p.m → ∃ t, LH.Next p.mv a b f k t ∧ (at_ rs' t).isSome = true) es k fs', ⟨[], .nil, Fil.zero⟩, fun k acc H7 H8 kp ⟨fs', h1, h2⟩ => ⟨fs', h1.mono fun _ _ z => z.kp kp, h2⟩, fun k e H7 acc he ⟨fs', hfs', hfil'⟩ hrd hk7 => ?_, fun F' acc H7 hF' hS7 hF7 ⟨fs', hfs', hfil'⟩ => ?_⟩
    · have kp7 := kpd hd6d hk7
      have hem := List.mem_of_getElem? he
      have hd27 := hk7 _ _ hdd hd6
      have hst7 := (W6.ks e hem).kp kp7
      have ks7 := ks6.kp kp7
      refine mTT.mk ⟨_, rfl, _, rfl, d2, rs', e.1, rfl, .inl hd27, ks7, hst7, _, rfl, ?_⟩
      cases hat : (at_ rs' e.1).isSome with
      | true => exact iteF (iteF ⟨fun _ _ e => e, fs', hfs', hfil'.skip he fun z => by rw [hat] at z; exact nomatch z.1⟩)
      | false =>
        obtain ⟨l, el, wl⟩ := W6.wl e hem
        have hld : l ≠ d := fun z => by
          obtain ⟨xs, h1, _⟩ := wl
          rw [z, hd6d] at h1
          exact nomatch h1
        have wl7 := wl.keep kp7 fun o z => hk7 _ _ hld z
        refine iteT ⟨_, rfl, _, rfl, _, rfl, d, es, e.1, .ref l, rfl, hrd, W6.ks.kp kp7, hst7, by rw [at_of W6.nd hem, el], _, _, rfl, d2, l, rs', p, a, b, e.1, rfl, rfl, .inl hd27, ks7, wl7, m3, fun bb H8 hS8 hiff => ⟨bb, rfl, ?_⟩⟩
        cases bb with
        | true => exact iteT (mTE.mk ⟨_, rfl, hS8, fs' ++ [e.1], (hfs'.mono fun _ _ z => z.kp (Kp.of hS8)).snoc (hst7.kp (Kp.of hS8)), hfil'.add he ⟨hat, hiff.mp rfl⟩⟩)
        | false => exact iteF ⟨hS8, fs', hfs'.mono fun _ _ z => z.kp (Kp.of hS8), hfil'.skip he fun z => by cases hiff.mpr z.2⟩
    · have hall' := hfil'.all
      refine ⟨_, ?_, rs', n + 1, fs', acc, F', _, rfl, hS6.trans hS7, hS7 _ _ hd6, hF7, hfs', ⟨rnk6, fun e he => ?_, sub6e, ks6.kp (Kp.of hS7), hfil'.nd W.nd, fun f hf => let ⟨e, h1, h2, _⟩ := (hall' f).mp hf; ⟨e, h1, h2⟩, fun f hf => let ⟨e, h1, h2, h3⟩ := (hall' f).mp hf; h3.1, fun h => absurd h (by omega), fun _ f hf => let ⟨e, h1, h2, h3⟩ := (hall' f).mp hf; h3.2, fun e he hn => ?_⟩, rfl⟩
      · omega
      · rcases old6' e he with h1 | ⟨_, h2⟩
        · obtain ⟨j, q1, q2⟩ := I.lt e h1
          exact ⟨j, q1, by omega⟩
        · exact ⟨n, h2, by omega⟩
      · have hn0 : (at_ rs e.1).isSome = false := by
          refine Bool.eq_false_iff.mpr fun z => ?_
          obtain ⟨x, hx, e1⟩ := at_some.mp z
          rw [at_some.mpr ⟨x, sub6 x hx, e1⟩] at hn
          exact nomatch hn
        have hcl : LH.Clear p.mv p.bad e.1 := by
          rcases I.c e he hn0 with z | z
          · obtain ⟨x, hx, e1⟩ := new6' _ z
            rw [at_some.mpr ⟨x, hx, e1⟩] at hn
            exact nomatch hn
          · exact z.1
        by_cases hdf : ∀ k : Nat, k < p.m → ∃ t, LH.Next p.mv a b e.1 k t ∧ (at_ rs' t).isSome = true
        · exact .inl ((hall' e.1).mpr ⟨e, he, rfl, hn, hdf⟩)
        · refine .inr ⟨hcl, ?_⟩
          refine Classical.byContradiction fun hno => hdf fun k hk => Classical.byContradiction fun hno2 => hno ⟨k, hk, fun t ht => Bool.eq_false_iff.mpr fun z => hno2 ⟨t, ht, z⟩⟩
end Lh
set_option Elab.async false
set_option linter.all false
set_option maxRecDepth 100000
set_option maxHeartbeats 4000000
/-! What is kept; the least ranked. -/
namespace Lh
open PySem PySem.Spec PyProof.Rows L2
abbrev KeptP (p : Pd) (a b : Nat) (s : Sit) : Prop := LH.Kept p.mv p.bad p.m a b s
theorem kept_of_done {p : Pd} {a b : Nat} {H : Hp} {es rs : List Ent} (W : Ways H p a b es) (D : Done p a b es rs) {s : Sit} (hs : ∃ e ∈ es, e.1 = s) (h : (at_ rs s).isSome = false) : KeptP p a b s := by
  refine ⟨fun t => (∃ e ∈ es, e.1 = t) ∧ (at_ rs t).isSome = false, ⟨hs, h⟩, fun t ⟨⟨e, he, e1⟩, ht⟩ => ?_⟩
  subst e1
  obtain ⟨c, k, hk, hn⟩ := D.2.2 e he ht
  exact ⟨c, (k : Int), by omega, by omega, fun u hu => ⟨W.cl e he k hk u hu, hn u hu⟩⟩
theorem not_kept {p : Pd} {a b : Nat} {rs : List Ent} (R : Rnk p a b rs) : ∀ (n : Nat) (s : Sit), at_ rs s = some (.int n) → ¬ KeptP p a b s := by
  intro n
  induction n using Nat.strongRecOn with
  | ind n ih =>
    intro s hs hk
    obtain ⟨e, he, e1, e2⟩ := at_mem hs
    obtain ⟨n', v1, v2, v3⟩ := R.v e he
    rw [e2] at v1
    injection v1 with v1
    have en : n = n' := by omega
    subst en
    subst e1
    by_cases h0 : n = 0
    · exact v2 h0 hk.clear
    · obtain ⟨o, o0, o1, ho⟩ := hk.step
      obtain ⟨t, n2, t1, t2, t3⟩ := v3 (by omega) o.toNat (by omega)
      rw [Int.toNat_of_nonneg o0] at t1
      exact ih n2 t3 t t2 (ho t t1)
def sp_rank_in (K : PySem.W.Frag) : Sp := fun vs H Q _ => ∃ x0 x1 x2, vs = [x0, x1, x2] ∧ ∃ (p : Pd) (a b : Nat) (s : Sit), PL K H x0 p ∧ NW K H x1 a b ∧ ST H x2 s ∧ SitOk p (a + b) s ∧
  ∀ v H', Same H H' → (v = .non ↔ KeptP p a b s) → Q v H'
theorem ok_rank_in {P : Program} {w : World} {K : PySem.W.Frag} {mg : Str → Option Value} {base : Heap} (T : Tx K mg) : Fn P w K mg base 8 (He.ga K "rank_in") (sp_rank_in K) := by
  obtain ⟨fd, F⟩ := T.d_rank_in
  have hb : Binds K fd ["plant", "news", "situation"] [] := F.bindsN fun _ _ _ _ _ _ us hl => match us, hl with | [_, _, _], _ => rfl
  refine fn_def F sc_rank_in hb (fun vs H Q E h => by obtain ⟨_, _, _, rfl, _⟩ := h; rfl) fun cdv A outer s H vs Q E hr h => ⟨_, PSs.nox (pss_one (ps_ret (ce_dgetS hr.units (ce_call (ok_ranks_in (P := P) (w := w) T) (hr.mono (by decide)) rfl T.g_ranks_in (pa_cons (pv 0) (pa_cons (ce_call (ok_ways_from (P := P) (w := w) T) (hr.mono (by decide)) rfl T.g_ways_from (pa_cons (pv 0) (pa_cons (pv 1) (pa_cons (pv 2) pa_nil)))) pa_nil))) (pv 2) ⟨rfl, rfl, rfl, rfl⟩))), ?_⟩
  obtain ⟨x0, x1, x2, rfl, h⟩ := h
  obtain ⟨p, a, b, s, hp, hn, hs, ok, q⟩ := h
  refine ⟨_, rfl, _, rfl, _, rfl, _, rfl, _, _, _, rfl, p, a, b, s, hp, hn, hs, ok, fun d H1 es hS1 hd0 hd1 W hse elen => ?_⟩
  refine ⟨_, _, rfl, p, a, b, d, es, hp.kpS hS1, hn.1, rfl, hd1, W, elen, fun d2 H2 rs hS2 hd2 hd22 ks2 D => ?_⟩
  have hs2 := hs.kp (Kp.of (hS1.trans hS2))
  refine ⟨d2, rs, rfl, .inl hd22, ks2, _, rfl, s, .inl hd22, ks2, hs2, ?_⟩
  refine q _ H2 (hS1.trans hS2) ?_
  cases hat : at_ rs s with
  | none => exact ⟨fun _ => kept_of_done W D hse (by rw [hat]; rfl), fun _ => rfl⟩
  | some v =>
    obtain ⟨e, he, e1, e2⟩ := at_mem hat
    obtain ⟨n, v1, _⟩ := D.1.v e he
    rw [e2] at v1
    subst v1
    exact ⟨(fun z => nomatch (show V.int n = V.non from z)), fun z => (not_kept D.1 n s hat z).elim⟩
def sp_is_kept (K : PySem.W.Frag) : Sp := fun vs H Q _ => ∃ x0 x1 x2, vs = [x0, x1, x2] ∧ ∃ (p : Pd) (a b : Nat) (s : Sit), PL K H x0 p ∧ NW K H x1 a b ∧ ST H x2 s ∧ SitOk p (a + b) s ∧
  ∀ bb H', Same H H' → (bb = true ↔ KeptP p a b s) → Q (.bl bb) H'
theorem ok_is_kept {P : Program} {w : World} {K : PySem.W.Frag} {mg : Str → Option Value} {base : Heap} (T : Tx K mg) : Fn P w K mg base 9 (He.ga K "is_kept") (sp_is_kept K) := by
  obtain ⟨fd, F⟩ := T.d_is_kept
  have hb : Binds K fd ["plant", "news", "situation"] [] := F.bindsN fun _ _ _ _ _ _ us hl => match us, hl with | [_, _, _], _ => rfl
  refine fn_def F sc_is_kept hb (fun vs H Q E h => by obtain ⟨_, _, _, rfl, _⟩ := h; rfl) fun cdv A outer s H vs Q E hr h => ⟨_, PSs.nox (pss_one (ps_ret (pe_cmpR op_isN (ce_call (ok_rank_in (P := P) (w := w) T) (hr.mono (by decide)) rfl T.g_rank_in (pa_cons (pv 0) (pa_cons (pv 1) (pa_cons (pv 2) pa_nil)))) pe_non (nomark _)))), ?_⟩
  obtain ⟨x0, x1, x2, rfl, h⟩ := h
  obtain ⟨p, a, b, s, hp, hn, hs, ok, q⟩ := h
  exact ⟨_, rfl, _, rfl, _, rfl, _, _, _, rfl, p, a, b, s, hp, hn, hs, ok, fun v H1 hS1 hv => ⟨rfl, q _ H1 hS1 (by rw [decide_eq_true_iff]; exact hv)⟩⟩
def sp_keeps (K : PySem.W.Frag) : Sp := sp_is_kept K
theorem ok_keeps {P : Program} {w : World} {K : PySem.W.Frag} {mg : Str → Option Value} {base : Heap} (T : Tx K mg) : Fn P w K mg base 9 (He.ga K "keeps") (sp_keeps K) := by
  obtain ⟨fd, F⟩ := T.d_keeps
  have hb : Binds K fd ["plant", "news", "situation"] [] := F.bindsN fun _ _ _ _ _ _ us hl => match us, hl with | [_, _, _], _ => rfl
  refine fn_def F sc_keeps hb (fun vs H Q E h => by obtain ⟨_, _, _, rfl, _⟩ := h; rfl) fun cdv A outer s H vs Q E hr h => ⟨_, PSs.nox (pss_cons (ps_expr (ce_call (ok_need_all (P := P) (w := w) T) (hr.mono (by decide)) rfl T.g_need_all (pa_cons (pv 0) (pa_cons (pv 1) (pa_cons (pv 2) pa_nil)))))
      (pss_one (ps_ret (pe_cmpR op_isN (ce_call (ok_rank_in (P := P) (w := w) T) (hr.mono (by decide)) rfl T.g_rank_in (pa_cons (pv 0) (pa_cons (pv 1) (pa_cons (pv 2) pa_nil)))) pe_non (nomark _))))), ?_⟩
  obtain ⟨x0, x1, x2, rfl, h⟩ := h
  obtain ⟨p, a, b, s, hp, hn, hs, ok, q⟩ := h
  refine ⟨_, rfl, _, rfl, _, rfl, _, _, _, rfl, p, a, b, s, hp, hn, hs, ok, fun H1 hS1 => ?_⟩
  have k1 := Kp.of hS1
  exact ⟨_, rfl, _, rfl, _, rfl, _, _, _, rfl, p, a, b, s, hp.kpS hS1, hn.kp k1, hs.kp k1, ok, fun v H2 hS2 hv => ⟨rfl, q _ H2 (hS1.trans hS2) (by rw [decide_eq_true_iff]; exact hv)⟩⟩
/-! ### the least of pairs (rank, situation) -/
abbrev Pr := Int × Sit
abbrev dP (q : Pr) : PyData := .tuple [.int q.1, dS q.2]
def PT (H : Hp) (v : V) (q : Pr) : Prop := ∃ c y, v = .ref c ∧ H c = some (.tup [.int q.1, y]) ∧ ST H y q.2
theorem PT.kp {H H' : Hp} {v : V} {q : Pr} (k : Kp H H') (h : PT H v q) : PT H' v q := let ⟨c, y, e, e2, s⟩ := h; ⟨c, y, e, k c _ e2 True.intro, s.kp k⟩
theorem PT.dp {K : PySem.W.Frag} {H : Hp} {v : V} {q : Pr} (h : PT H v q) : Dp K H v (dP q) := by
  obtain ⟨c, y, rfl, e, s⟩ := h
  exact .tup (sqT e) (.cons (.int _) (.cons s.dp .nil))
theorem alike_dP (q r : Pr) : PySem.W.alike (dP q) (dP r) = true := by
  rw [PySem.W.alike, PySem.W.alikeAll, PySem.W.alikeAll, PySem.W.alikeAll, alike_dS, PySem.W.alike]
  rfl
theorem fl_dP (q : Pr) : Fl 3 (dP q) := fl_tup fun d m => by
  rcases List.mem_cons.mp m with e | m
  · subst e
    exact (fl_int _).mono (by decide)
  · rw [List.mem_singleton.mp m]
    exact fl_dS _
theorem lt_dP (q r : Pr) : (PySem.W.dataLt (dP q) (dP r) = true → q.1 ≤ r.1) ∧ (PySem.W.dataLt (dP q) (dP r) = false → r.1 ≤ q.1) := by
  have e := PySem.W.dataLt_pair (x := .int q.1) (x' := .int r.1) (y := dS q.2) (y' := dS r.2) (by rw [PySem.W.alike]) (alike_dS _ _)
  rw [e]
  by_cases h : PyData.eqv (.int q.1) (.int r.1) = true
  · have := (eqv_int _ _).mp h
    exact ⟨fun _ => by omega, fun _ => by omega⟩
  · rw [if_neg h, PySem.W.dataLt_int]
    exact ⟨fun z => by have := of_decide_eq_true z; omega, fun z => by have := of_decide_eq_false z; omega⟩
theorem min_dP : ∀ (qs : List Pr) (q : Pr), ∃ r, r ∈ q :: qs ∧ PySem.W.minD (dP q) (qs.map dP) = dP r ∧ ∀ r' ∈ q :: qs, r.1 ≤ r'.1
  | [], q => ⟨q, by simp, rfl, fun r' h => by rw [List.mem_singleton.mp h]; exact Int.le_refl _⟩
  | x :: qs, q => by
    have e : PySem.W.minD (dP q) ((x :: qs).map dP) = PySem.W.minD (if PySem.W.dataLt (dP x) (dP q) then dP x else dP q) (qs.map dP) := rfl
    rw [e]
    cases hl : PySem.W.dataLt (dP x) (dP q) with
    | true =>
      have h1 := (lt_dP x q).1 hl
      obtain ⟨r, h2, h3, h4⟩ := min_dP qs x
      refine ⟨r, List.mem_cons_of_mem _ h2, h3, fun r' hr => ?_⟩
      rcases List.mem_cons.mp hr with z | z
      · have := h4 x (List.mem_cons_self ..)
        rw [z]
        omega
      · exact h4 r' z
    | false =>
      have h1 := (lt_dP x q).2 hl
      obtain ⟨r, h2, h3, h4⟩ := min_dP qs q
      refine ⟨r, ?_, h3, fun r' hr => ?_⟩
      · rcases List.mem_cons.mp h2 with z | z
        · rw [z]; simp
        · exact List.mem_cons_of_mem _ (List.mem_cons_of_mem _ z)
      · rcases List.mem_cons.mp hr with z | z
        · rw [z]; exact h4 q (List.mem_cons_self ..)
        · rcases List.mem_cons.mp z with z | z
          · have := h4 q (List.mem_cons_self ..)
            rw [z]
            omega
          · exact h4 r' (List.mem_cons_of_mem _ z)
theorem dP_inj {q r : Pr} (h : dP q = dP r) : q = r := by
  have e1 : PyData.eqv (dP q) (dP r) = true := by
    rw [h]
    exact PySem.W.eqv_refl_alike _ (alike_dP r r)
  rw [PyData.eqv, PyData.eqvAll, PyData.eqvAll, PyData.eqvAll, Bool.and_true, Bool.and_eq_true, eqv_int, eqv_dS] at e1
  exact Prod.ext e1.1 e1.2
def rMinP (K : PySem.W.Frag) : List V → Hp → VK → Prop := fun vs H Q => ∃ (a : Addr) (xs : List V) (qs : List Pr), vs = [.ref a] ∧ SqL K H a xs ∧ All2 (PT H) xs qs ∧ qs ≠ [] ∧ xs.length ≤ 1000 ∧ ∀ x q, PT H x q → q ∈ qs → (∀ r ∈ qs, q.1 ≤ r.1) → Q x H
theorem cr_minP {X : Cx} (hc : X.calm = true) (hu : X.A.units + 64 < cLine) : CallR X (.builtin "min") (rMinP X.K) := by
  intro pins s σ H vs us Q I r h
  obtain ⟨a, xs, qs, rfl, hs, hal, hne, hl, q⟩ := h
  rw [Vals.ref1 r]
  obtain ⟨its, rv, pl, _⟩ := I.list hs
  obtain ⟨as, hr⟩ := Dp.readsAll I (qs.map dP) xs its (dp_all (fun v x r => PT.dp r) hal) rv
  cases qs with
  | nil => exact (hne rfl).elim
  | cons q0 qs =>
    refine PySem.W.min_list_data (I.ok.hd hc) pl.isList (x := dP q0) (xs := qs.map dP) (by simpa using hr) ⟨fun x hx y hy => ?_, fun x hx => ?_⟩ ?_ fun i v h' tk bs' hv hrd k => ?_
    · obtain ⟨x', _, rfl⟩ := List.mem_map.mp (show x ∈ (q0 :: qs).map dP from hx)
      obtain ⟨y', _, rfl⟩ := List.mem_map.mp (show y ∈ (q0 :: qs).map dP from hy)
      exact alike_dP _ _
    · obtain ⟨x', _, rfl⟩ := List.mem_map.mp (show x ∈ (q0 :: qs).map dP from hx)
      exact fun z => nomatch z
    · have := depthAll_le (n := 3) (ds := (q0 :: qs).map dP) fun d m => by
        obtain ⟨b, hb, rfl⟩ := List.mem_map.mp m
        exact (fl_dP b).2
      have e : PyData.depthAll (dP q0 :: qs.map dP) = PyData.depthAll ((q0 :: qs).map dP) := rfl
      omega
    · obtain ⟨r0, m1, m2, m3⟩ := min_dP qs q0
      have hv2 : its[i]? = some v := by simpa using hv
      have hil := (List.getElem?_eq_some_iff.mp hv2).1
      have hxl := rv.length
      obtain ⟨u, hu1, hu2⟩ := rv.get (i := i) (x := xs[i]'(by omega)) (List.getElem?_eq_getElem (by omega))
      rw [hv2] at hu1
      cases hu1
      obtain ⟨q1, hq1, hpt⟩ := hal.get (List.getElem?_eq_getElem (l := xs) (i := i) (by omega))
      obtain ⟨as2, hr2⟩ := Dp.reads I (dP q1) _ _ hpt.dp hu2
      have hr3 := PyProof.Rows.Reads.keeps k hr2
      rw [m2] at hrd
      have e2 := (PySem.Reads.unique hrd _ _ hr3).1
      have e3 := dP_inj e2
      subst e3
      exact ⟨_, H, I.kept (t' := tk) k, hu2, q _ _ hpt m1 m3⟩
def sp_least_ranked (P : Program) (w : World) (K : PySem.W.Frag) : Sp := fun vs H Q _ => ∃ x0 x1, vs = [x0, x1] ∧ ∃ (d : Addr) (rs : List Ent) (ts : List Sit), x0 = .ref d ∧ Rd H d (dicO P w d rs) ∧ KeysOk H rs ∧ (∀ e ∈ rs, ∃ n : Nat, e.2.2 = .int n) ∧ NT H x1 ts ∧ ts.length ≤ 5 ∧ (∃ t ∈ ts, (at_ rs t).isSome = true) ∧
  ∀ v H' t, ∀ n : Nat, Same H H' → ST H' v t → t ∈ ts → at_ rs t = some (.int n) → (∀ t' ∈ ts, ∀ n' : Nat, at_ rs t' = some (.int n') → n ≤ n') → Q v H'
theorem ok_least_ranked {P : Program} {w : World} {K : PySem.W.Frag} {mg : Str → Option Value} {base : Heap} (T : Tx K mg) : Fn P w K mg base 1 (He.ga K "least_ranked") (sp_least_ranked P w K) := by
  obtain ⟨fd, F⟩ := T.d_least_ranked
  have hb : Binds K fd ["ranks", "later"] [] := F.bindsN fun _ _ _ _ _ _ us hl => match us, hl with | [_, _], _ => rfl
  refine fn_def F sc_least_ranked hb (fun vs H Q E h => by obtain ⟨_, _, rfl, _⟩ := h; rfl) fun cdv A outer s H vs Q E hr h => ⟨_, PSs.nox (pss_one (ps_ret (pe_ix (kx_ix_tup (K := K)) (pe_callB (cr_minP rfl hr.units) rfl T.b_min boot_min (pa_cons (kx_lc (K := K) (ce_lc .t rfl sc_least_ranked.nd (pv 1) (blkOk_by (own := [("one", 2)]) (N := n_least_ranked) (sc := defScope s_least_ranked) (by decide +kernel)) (fun _ _ _ _ _ => pg_name (i := 2) sc_least_ranked.nd rfl (Or.inl rfl)) (fun _ _ _ _ _ => (pts_one (pt_cmpR (kx_inS (P := P) (w := w) hr.units) (pv 2) (pv 0) (by rfl)))) (fun _ _ _ _ _ => (ce_tup (pa_cons (pe_ix (kx_dic (P := P) (w := w) hr.units) (pv 0) (pv 2) (fun _ _ => rfl)) (pa_cons (pv 2) pa_nil)))))) pa_nil)) pe_int (fun _ _ => rfl)))), ?_⟩
  obtain ⟨x0, x1, rfl, h⟩ := h
  obtain ⟨d, rs, ts, rfl, hd, ks, hint, ⟨c, zs, rfl, hc, hz⟩, hl5, hex, q⟩ := h
  have zl := hz.1
  have cond : ∀ t, (at_ rs t).isSome = true → ∃ n : Nat, at_ rs t = some (.int n) := fun t ht => by
    cases hat : at_ rs t with
    | none => rw [hat] at ht; exact nomatch ht
    | some v =>
      obtain ⟨e, he, _, e2⟩ := at_mem hat
      obtain ⟨n, v1⟩ := hint e he
      exact ⟨n, by rw [← e2, v1]⟩
  refine ⟨_, rfl, c, zs, rfl, sqT hc, by omega, by simp, fun k acc H2 => ∃ qs : List Pr, All2 (PT H2) acc qs ∧ acc.length ≤ k ∧ ∀ q : Pr, q ∈ qs ↔ ∃ t ∈ ts.take k, at_ rs t = some (.int q.1) ∧ q.2 = t, ⟨[], .nil, Nat.le_refl _, fun q => by simp⟩, fun k acc H2 H3 kp ⟨qs, h1, h2⟩ => ⟨qs, h1.mono fun _ _ z => z.kp kp, h2⟩, fun k x H2 acc hx ⟨qs, h1, hk, h2⟩ hS => ?_, fun D acc H2 hD hS hdd ⟨qs, h1, hk, h2⟩ => ?_⟩
  · obtain ⟨t, ht, hst⟩ := hz.get hx
    have hst2 := hst.kp (Kp.of hS)
    refine mTT.mk ⟨_, rfl, _, rfl, d, rs, t, rfl, rd_same hd hS, ks.kp (Kp.of hS), hst2, _, rfl, ?_⟩
    cases hat : (at_ rs t).isSome with
    | false =>
      refine iteF ⟨fun _ _ e => e, qs, h1, by omega, fun q => ?_⟩
      rw [h2 q, take_succ' ht]
      refine ⟨fun ⟨t', m, r⟩ => ⟨t', List.mem_append_left _ m, r⟩, fun ⟨t', m, r1, r2⟩ => ?_⟩
      rcases List.mem_append.mp m with z | z
      · exact ⟨t', z, r1, r2⟩
      · rw [List.mem_singleton.mp z] at r1
        rw [r1] at hat
        exact nomatch hat
    | true =>
      obtain ⟨n, hn⟩ := cond t hat
      refine iteT (mTE.mk ⟨_, rfl, _, rfl, d, rs, t, _, rfl, rd_same hd hS, ks.kp (Kp.of hS), hst2, hn, _, rfl, by simp, fun e H3 he hS3 he3 => ⟨hS3, qs ++ [((n : Int), t)], ?_, by simp; omega, fun q => ?_⟩⟩)
      · exact (h1.mono fun _ _ z => z.kp (Kp.of hS3)).snoc ⟨e, _, rfl, he3, hst2.kp (Kp.of hS3)⟩
      · rw [List.mem_append, h2 q, take_succ' ht, List.mem_singleton]
        refine ⟨fun z => ?_, fun ⟨t', m, r1, r2⟩ => ?_⟩
        · rcases z with ⟨t', m, r⟩ | z
          · exact ⟨t', List.mem_append_left _ m, r⟩
          · subst z
            exact ⟨t, by simp, hn, rfl⟩
        · rcases List.mem_append.mp m with z | z
          · exact .inl ⟨t', z, r1, r2⟩
          · rw [List.mem_singleton.mp z] at r1 r2
            rw [hn] at r1
            injection r1 with r1
            injection r1 with r1
            exact .inr (Prod.ext r1.symm r2)
  · rw [zl, List.take_length] at h2
    refine ⟨D, acc, qs, rfl, sqL hdd, h1, ?_, by omega, fun x r hpt hm hmin => ?_⟩
    · obtain ⟨t, ht, hs⟩ := hex
      obtain ⟨n, hn⟩ := cond t hs
      intro z
      have := (h2 ((n : Int), t)).mpr ⟨t, ht, hn, rfl⟩
      rw [z] at this
      exact nomatch this
    · obtain ⟨t, ht, hn, e2⟩ := (h2 r).mp hm
      obtain ⟨n, hn2⟩ := cond t (by rw [hn]; rfl)
      obtain ⟨cc, y, rfl, hcc, hy⟩ := hpt
      refine ⟨cc, _, 1, _, rfl, rfl, sqT hcc, at1, ?_⟩
      rw [hn2] at hn
      injection hn with hn
      injection hn with hn
      rw [e2] at hy
      refine q _ H2 t n hS hy ht hn2 fun t' ht' n' hn' => ?_
      have := hmin ((n' : Int), t') ((h2 _).mpr ⟨t', ht', hn', rfl⟩)
      simp only at this
      omega
end Lh
set_option Elab.async false
set_option linter.all false
set_option maxRecDepth 100000
set_option maxHeartbeats 4000000
/-! The triples of a lost situation; the verdict. -/
namespace Lh
open PySem PySem.Spec PyProof.Rows L2
/-- a situation, its rank, the answers to it -/
abbrev Tre := Sit × Nat × List Sit
abbrev dN (ts : List Sit) : PyData := .tuple (ts.map dS)
abbrev dT (t : Tre) : PyData := .tuple [dS t.1, .int t.2.1, dN t.2.2]
def TT (H : Hp) (v : V) (t : Tre) : Prop := ∃ a x y, v = .ref a ∧ H a = some (.tup [x, .int t.2.1, y]) ∧ ST H x t.1 ∧ NT H y t.2.2
theorem TT.kp {H H' : Hp} {v : V} {t : Tre} (k : Kp H H') (h : TT H v t) : TT H' v t := let ⟨a, x, y, e, q, h1, h2⟩ := h; ⟨a, x, y, e, k a _ q True.intro, h1.kp k, h2.kp k⟩
theorem NT.dp {K : PySem.W.Frag} {H : Hp} {v : V} {ts : List Sit} (h : NT H v ts) : Dp K H v (dN ts) := by
  obtain ⟨a, xs, rfl, e, al⟩ := h
  exact .tup (sqT e) (dp_all (fun v x r => ST.dp r) al)
theorem TT.dp {K : PySem.W.Frag} {H : Hp} {v : V} {t : Tre} (h : TT H v t) : Dp K H v (dT t) := by
  obtain ⟨a, x, y, rfl, e, h1, h2⟩ := h
  exact .tup (sqT e) (.cons h1.dp (.cons (.int _) (.cons h2.dp .nil)))
theorem alike_all {α : Type} {enc : α → PyData} (h : ∀ x y, PySem.W.alike (enc x) (enc y) = true) : ∀ xs ys : List α, PySem.W.alikeAll (xs.map enc) (ys.map enc) = true
  | [], _ => by simp [PySem.W.alikeAll]
  | _ :: _, [] => by simp [PySem.W.alikeAll]
  | x :: xs, y :: ys => by
    rw [List.map_cons, List.map_cons, PySem.W.alikeAll, h x y, alike_all h xs ys]
    rfl
theorem alike_dT (t u : Tre) : PySem.W.alike (dT t) (dT u) = true := by
  have e : PySem.W.alike (dN t.2.2) (dN u.2.2) = true := by
    rw [PySem.W.alike]
    exact alike_all alike_dS _ _
  rw [PySem.W.alike, PySem.W.alikeAll, PySem.W.alikeAll, PySem.W.alikeAll, PySem.W.alikeAll, alike_dS, e, PySem.W.alike]
  rfl
theorem fl_dT (t : Tre) : Fl 4 (dT t) := fl_tup fun d m => by
  rcases List.mem_cons.mp m with e | m
  · subst e
    exact (fl_dS _).mono (by decide)
  · rcases List.mem_cons.mp m with e | m
    · subst e
      exact (fl_int _).mono (by decide)
    · rw [List.mem_singleton.mp m]
      exact fl_tup (fl_map fl_dS _)
theorem choice2 {α β : Type} {R : α → β → Prop} : ∀ {xs : List α}, (∀ x ∈ xs, ∃ y, R x y) → ∃ ys, All2 R xs ys
  | [], _ => ⟨[], .nil⟩
  | x :: xs, h => by
    obtain ⟨y, hy⟩ := h x (List.mem_cons_self ..)
    obtain ⟨ys, hys⟩ := choice2 fun z m => h z (List.mem_cons_of_mem _ m)
    exact ⟨y :: ys, .cons hy hys⟩
theorem All2.mapl {α β γ : Type} {R : γ → β → Prop} {f : α → γ} {xs : List α} {ys : List β} (h : All2 (fun x y => R (f x) y) xs ys) : All2 R (xs.map f) ys := by
  refine ⟨by rw [List.length_map]; exact h.1, fun i x y a b => ?_⟩
  rw [List.getElem?_map] at a
  obtain ⟨z, h1, h2⟩ := Option.map_eq_some_iff.mp a
  rw [← h2]
  exact h.2 i z y h1 b
/-- the triples prove that s is lost -/
structure Prf (p : Pd) (a b : Nat) (trs : List Tre) (s : Sit) : Prop where
  has : ∃ tr ∈ trs, tr.1 = s
  ok : ∀ tr ∈ trs, SitOk p (a + b) tr.1
  z : ∀ tr ∈ trs, tr.2.1 = 0 → ¬ LH.Clear p.mv p.bad tr.1 ∧ tr.2.2 = []
  nz : ∀ tr ∈ trs, 0 < tr.2.1 → tr.2.2.length = p.m ∧ ∀ (k : Nat) (t : Sit), tr.2.2[k]? = some t → LH.Next p.mv a b tr.1 k t ∧ ∃ tr' ∈ trs, tr'.1 = t ∧ tr'.2.1 < tr.2.1
  len : trs.length ≤ 52
/-- a tuple of triples -/
def TTs (H : Hp) (v : V) (trs : List Tre) : Prop := ∃ a xs, v = .ref a ∧ H a = some (.tup xs) ∧ All2 (TT H) xs trs
structure TInv (P : Program) (w : World) (H0 H : Hp) (p : Pd) (a b : Nat) (rs : List Ent) (s : Sit) (d l : Addr) (fs : List Ent) (ws : List V) (ss : List Sit) : Prop where
  sm : Same H0 H
  hd : H d = some (dicO P w d fs)
  hl : H l = some (.lst ws)
  al : All2 (ST H) ws ss
  so : ∀ t ∈ ss, (at_ rs t).isSome = true
  en : ∀ e ∈ fs, ∃ (n : Nat) (as : List Sit), at_ rs e.1 = some (.int n) ∧ TT H e.2.2 (e.1, n, as) ∧ (n = 0 → as = []) ∧ (0 < n → as.length = p.m ∧ ∀ (k : Nat) (t : Sit), as[k]? = some t → LH.Next p.mv a b e.1 k t ∧ ∃ n' : Nat, at_ rs t = some (.int n') ∧ n' < n ∧ ((∃ e' ∈ fs, e'.1 = t) ∨ t ∈ ss))
  nd : (fs.map (·.1)).Nodup
  ks : KeysOk H fs
  st : (∃ e ∈ fs, e.1 = s) ∨ s ∈ ss
  bd : (52 - fs.length) * 16 + ws.length ≤ 833
def sp_triples_from (P : Program) (w : World) (K : PySem.W.Frag) : Sp := fun vs H Q _ => ∃ x0 x1 x2, vs = [x0, x1, x2] ∧ ∃ (p : Pd) (a b : Nat) (s : Sit) (dr dw : Addr) (rs es : List Ent), x0 = .ref dr ∧ x1 = .ref dw ∧ ST H x2 s ∧ p.Ok ∧ a + b ≤ 2 ∧
  H dr = some (dicO P w dr rs) ∧ KeysOk H rs ∧ H dw = some (dicO P w dw es) ∧ Ways H p a b es ∧ Done p a b es rs ∧ (at_ rs s).isSome = true ∧
  ∀ v H' trs, Same H H' → TTs H' v trs → Prf p a b trs s → Q v H'
theorem ok_triples_from {P : Program} {w : World} {K : PySem.W.Frag} {mg : Str → Option Value} {base : Heap} (T : Tx K mg) : Fn P w K mg base 2 (He.ga K "triples_from") (sp_triples_from P w K) := by
  obtain ⟨fd, F⟩ := T.d_triples_from
  have hb : Binds K fd ["ranks", "ways", "situation"] [] := F.bindsN fun _ _ _ _ _ _ us hl => match us, hl with | [_, _, _], _ => rfl
  refine fn_def F sc_triples_from hb (fun vs H Q E h => by obtain ⟨_, _, _, rfl, _⟩ := h; rfl) fun cdv A outer s H vs Q E hr h => ⟨_, PSs.nox (pss_cons (ps_par (i := 3) (j := 4) (by rfl) sc_triples_from.nd rfl rfl (by decide) rfl rfl (pa_cons ce_dnewS (pa_cons (ce_lst (pa_cons (pv 2) pa_nil)) pa_nil)) (by rfl))
      (pss_cons (ps_while PassesOwn.never (pt_cmpR (kx_neD (K := K) hr.units) (pv 4) (ce_lst pa_nil) (nomark _)) (pss_cons (ps_set (i := 5) sc_triples_from.nd rfl (by first | exact Or.inl rfl | exact Or.inr rfl) (pe_bm0 PySem.F.plainAttrs_list PySem.F.slot_list_pop PySem.F.type_list_pop mt_pop (pv 4)))
      (pss_one (ps_if (pt_cmpR (kx_notInS (P := P) (w := w) hr.units) (pv 5) (pv 3) (by rfl)) (pss_cons (ps_set (i := 6) sc_triples_from.nd rfl (by first | exact Or.inl rfl | exact Or.inr rfl) (pe_ifExp (pt_cmpR op_gt (pe_ix (kx_dic (P := P) (w := w) hr.units) (pv 0) (pv 5) (fun _ _ => rfl)) pe_int (nomark _)) (kx_lc (K := K) (ce_lc .l rfl sc_triples_from.nd (pe_ix (kx_dic (P := P) (w := w) hr.units) (pv 1) (pv 5) (fun _ _ => rfl)) (blkOk_by (own := [("later", 7)]) (N := n_triples_from) (sc := defScope s_triples_from) (by decide +kernel)) (fun _ _ _ _ _ => pg_name (i := 7) sc_triples_from.nd rfl (Or.inl rfl)) (fun _ _ _ _ _ => pts_nil) (fun _ _ _ _ _ => (ce_call (ok_least_ranked (P := P) (w := w) T) (hr.mono (by decide)) rfl T.g_least_ranked (pa_cons (pv 0) (pa_cons (pv 7) pa_nil)))))) (ce_lst pa_nil)))
      (pss_cons (ps_asg (ce_tup (pa_cons (pv 5) (pa_cons (pe_ix (kx_dic (P := P) (w := w) hr.units) (pv 0) (pv 5) (fun _ _ => rfl)) (pa_cons (pe_callTy (kx_tuple (K := K)) rfl T.b_tuple boot_tuple (pa_cons (pv 6) pa_nil)) pa_nil)))) (pg_sub (pv 3) (pv 5) (set_dicS hr.units)))
      (pss_one (ps_expr (kx_bm (K := K) <| pe_bm PySem.F.plainAttrs_list PySem.F.slot_list_extend PySem.F.type_list_extend mt_extend (pv 4) (pa_cons (pv 6) pa_nil)))))) pss_nil))))
      (pss_one (ps_ret (pe_callTy (kx_tuple (K := K)) rfl T.b_tuple boot_tuple (pa_cons (ce_srtVals hr.units rfl rfl T.b_sorted (pv 3)) pa_nil)))))), ?_⟩
  obtain ⟨x0, x1, x2, rfl, h⟩ := h
  obtain ⟨p, a, b, s, dr, dw, rs, es, rfl, rfl, hs, pok, hab, hdr, ksr, hdw, W, D, hat, q⟩ := h
  have m3 := pok.wf.m3
  intro d H1 hd hS1 hd1
  refine ⟨_, rfl, by simp, fun wl H2 hwl hS2 hwl2 => ⟨_, _, rfl, ?_⟩⟩
  have hdl : d ≠ wl := fun e => by rw [e] at hd1; rw [hd1] at hwl; exact nomatch hwl
  have hS12 := hS1.trans hS2
  have hwl0 := none_back hS1 hwl
  have rval : ∀ t, (at_ rs t).isSome = true → ∃ n : Nat, at_ rs t = some (.int n) := fun t ht => by
    cases hat : at_ rs t with
    | none => rw [hat] at ht; exact nomatch ht
    | some v =>
      obtain ⟨e, he, _, e2⟩ := at_mem hat
      obtain ⟨n, v1, _⟩ := D.1.v e he
      exact ⟨n, by rw [← e2, v1]⟩
  have rkey : ∀ t, (at_ rs t).isSome = true → ∃ e ∈ es, e.1 = t := fun t ht => by
    obtain ⟨e, he, e1⟩ := at_some.mp ht
    obtain ⟨e', h1, h2⟩ := D.2.1 e he
    exact ⟨e', h1, h2.trans e1⟩
  have rok : ∀ t, (at_ rs t).isSome = true → SitOk p (a + b) t := fun t ht => by
    obtain ⟨e, he, e1⟩ := rkey t ht
    rw [← e1]
    exact W.ok e he
  have inv0 : TInv P w H H2 p a b rs s d wl [] [x2] [s] := ⟨hS12, hS2 _ _ hd1, hwl2, .cons (hs.kp (Kp.of hS12)) .nil, fun t ht => by rw [List.mem_singleton.mp ht]; exact hat, (fun e h => nomatch h), List.nodup_nil, (fun e h => nomatch h), .inr (by simp), by simp⟩
  refine ⟨fun m σ H3 => ∃ fs ws ss z5 z6 z7, σ = [some (.ref dr), some (.ref dw), some x2, some (.ref d), some (.ref wl), z5, z6, z7] ∧ TInv P w H H3 p a b rs s d wl fs ws ss ∧ m = (52 - fs.length) * 16 + ws.length, ⟨_, [], _, _, none, none, none, rfl, inv0, rfl⟩, ?_⟩
  rintro m σ H3 ⟨fs, ws, ss, z5, z6, z7, rfl, I, rfl⟩
  have bd := I.bd
  have fok : ∀ e ∈ fs, SitOk p (a + b) e.1 := fun e he => by
    obtain ⟨n, as, h1, _⟩ := I.en e he
    exact rok _ (by rw [h1]; rfl)
  refine ⟨_, rfl, by simp, fun e H4 he hS4 he4 => ⟨.list (ss.map dS), .list [], .lst (sqL (hS4 _ _ I.hl)) (dp_all (fun v x r => ST.dp r) (I.al.mono fun _ _ z => z.kp (Kp.of hS4))), .lst (sqL he4) .nil, (fl_lst (fl_map fl_dS ss)).sh (by decide), (fl_lst (n := 0) (by simp)).sh (by decide), _, rfl, ?_⟩⟩
  rw [eqv_nilL]
  have kp4 := Kp.of hS4
  have flen : fs.length ≤ 52 := by
    have := sits_len pok (L := a + b) (by omega) I.nd fun t ht => by
      obtain ⟨e, he, rfl⟩ := List.mem_map.mp ht
      exact fok e he
    rwa [List.length_map] at this
  by_cases hss : ss = []
  · subst hss
    refine iteF ?_
    have ch : ∀ e ∈ fs, ∃ tr : Tre, TT H4 e.2.2 tr ∧ tr.1 = e.1 ∧ at_ rs tr.1 = some (.int tr.2.1) ∧ (tr.2.1 = 0 → tr.2.2 = []) ∧ (0 < tr.2.1 → tr.2.2.length = p.m ∧ ∀ (k : Nat) (t : Sit), tr.2.2[k]? = some t → LH.Next p.mv a b tr.1 k t ∧ ∃ n' : Nat, at_ rs t = some (.int n') ∧ n' < tr.2.1 ∧ ∃ e' ∈ fs, e'.1 = t) := fun e he => by
      obtain ⟨n, as, h1, h2, h3, h4⟩ := I.en e he
      exact ⟨(e.1, n, as), h2.kp kp4, rfl, h1, h3, fun h0 => ⟨(h4 h0).1, fun k t ht => let ⟨q1, n', q2, q3, q4⟩ := (h4 h0).2 k t ht; ⟨q1, n', q2, q3, q4.elim id fun z => nomatch z⟩⟩⟩
    obtain ⟨trs, htr⟩ := choice2 ch
    have hTT : All2 (TT H4) (fs.map fun e => e.2.2) trs := All2.mapl (htr.mono fun _ _ z => z.1)
    obtain ⟨bs, e1, ok, _, us, hus, pm⟩ := srt_gen (K := K) (fun v x r => TT.dp r) (fun s => Nat.le_trans (fl_dT s).2 (by decide)) alike_dT (fun s => ⟨_, _, rfl⟩) hTT (by rw [List.length_map]; omega)
    have hmem : ∀ e ∈ fs, ∃ tr ∈ trs, tr.1 = e.1 := fun e he => let ⟨tr, h1, h2⟩ := htr.mem he; ⟨tr, h1, h2.2.1⟩
    have prf : Prf p a b us s := by
      refine ⟨?_, fun tr ht => ?_, fun tr ht h0 => ?_, fun tr ht h0 => ?_, ?_⟩
      · obtain ⟨e, he, e1⟩ := I.st.elim id fun z => nomatch z
        obtain ⟨tr, h1, h2⟩ := hmem e he
        exact ⟨tr, pm.mem_iff.mpr h1, h2.trans e1⟩
      · obtain ⟨e, he, h⟩ := htr.mem' (pm.mem_iff.mp ht)
        exact rok _ (by rw [h.2.2.1]; rfl)
      · obtain ⟨e, he, h⟩ := htr.mem' (pm.mem_iff.mp ht)
        refine ⟨?_, h.2.2.2.1 h0⟩
        obtain ⟨x, hx, x1, x2⟩ := at_mem h.2.2.1
        obtain ⟨n, v1, v2, _⟩ := D.1.v x hx
        rw [x2] at v1
        injection v1 with v1
        rw [← x1]
        exact v2 (by omega)
      · obtain ⟨e, he, h⟩ := htr.mem' (pm.mem_iff.mp ht)
        refine ⟨(h.2.2.2.2 h0).1, fun k t hk => ?_⟩
        obtain ⟨q1, n', q2, q3, e', q4, q5⟩ := (h.2.2.2.2 h0).2 k t hk
        refine ⟨q1, ?_⟩
        obtain ⟨tr', h1, h2⟩ := htr.mem q4
        refine ⟨tr', pm.mem_iff.mpr h1, h2.2.1.trans q5, ?_⟩
        have q6 := h2.2.2.1
        rw [h2.2.1, q5, q2] at q6
        injection q6 with q6
        injection q6 with q6
        omega
      · rw [pm.length_eq, ← htr.1]
        exact flen
    refine ⟨_, rfl, d, fs, bs, rfl, .inl (hS4 _ _ I.hd), I.ks.kp kp4, e1.symm, ok, fun pl H5 hpl hS5 hpl5 => ⟨pl, _, rfl, sqL hpl5, fun tu H6 htu hS6 htu6 => ?_⟩⟩
    exact q _ H6 us (I.sm.trans (hS4.trans (hS5.trans hS6))) ⟨tu, _, rfl, htu6, hus.mono fun _ _ z => z.kp (Kp.of (hS5.trans hS6))⟩ prf
  have hne : (!(ss.map dS).isEmpty) = true := by
    cases ss with
    | nil => exact (hss rfl).elim
    | cons _ _ => rfl
  rw [hne]
  have wsl := I.al.1
  have slen : 0 < ss.length := List.length_pos_iff.mpr hss
  obtain ⟨t1, ht1⟩ : ∃ t1, ss[ss.length - 1]? = some t1 := ⟨_, List.getElem?_eq_getElem (by omega)⟩
  obtain ⟨y1, hy1, hst1⟩ := I.al.get' ht1
  have t1r := I.so t1 (List.mem_of_getElem? ht1)
  obtain ⟨n1, hn1⟩ := rval t1 t1r
  have hwl4 := hS4 _ _ I.hl
  refine iteT ⟨fun σ' H' => ∃ m', m' < (52 - fs.length) * 16 + ws.length ∧ ∃ fs ws ss z5 z6 z7, σ' = [some (.ref dr), some (.ref dw), some x2, some (.ref d), some (.ref wl), z5, z6, z7] ∧ TInv P w H H' p a b rs s d wl fs ws ss ∧ m' = (52 - fs.length) * 16 + ws.length, fun σ' H' z => z, ?_⟩
  refine ⟨_, rfl, .inl ⟨rfl, _, sqL hwl4⟩, wl, ws, y1, rfl, rfl, hwl4, by rw [wsl]; exact hy1, ?_⟩
  obtain ⟨H5, e5⟩ : ∃ H5, H5 = upd H4 wl (.lst ws.dropLast) := ⟨_, rfl⟩
  have kp45 : Kp H4 H5 := by rw [e5]; exact Kp.lst hwl4
  have hS5 : Same H H5 := by rw [e5]; exact same_put (I.sm.trans hS4) hwl0
  have hd5 : H5 d = some (dicO P w d fs) := by rw [e5, upd_ne hdl]; exact hS4 _ _ I.hd
  have kp35 : Kp H3 H5 := kp4.trans kp45
  have hw5 : H5 wl = some (.lst ws.dropLast) := by rw [e5]; exact upd_same
  have al5 : All2 (ST H5) ws.dropLast ss.dropLast := by
    have z := (I.al.take (ws.length - 1)).mono fun _ _ z => ST.kp kp35 z
    rw [List.dropLast_eq_take, List.dropLast_eq_take]
    rwa [show ss.length - 1 = ws.length - 1 by omega]
  have so5 : ∀ t ∈ ss.dropLast, (at_ rs t).isSome = true := fun t ht => I.so t (List.dropLast_subset _ ht)
  have ks5 := I.ks.kp kp35
  have hst5 := hst1.kp kp35
  have split : ∀ t ∈ ss, t ∈ ss.dropLast ∨ t = t1 := fun t ht => by
    have e : ss = ss.dropLast ++ [t1] := by
      have e2 := List.dropLast_concat_getLast hss
      rw [List.getLast_eq_getElem] at e2
      have e3 := (List.getElem?_eq_some_iff.mp ht1).2
      rw [e3] at e2
      exact e2.symm
    rw [e] at ht
    rcases List.mem_append.mp ht with z | z
    · exact .inl z
    · exact .inr (List.mem_singleton.mp z)
  have hdr5 := hS5 _ _ hdr
  have hdw5 := hS5 _ _ hdw
  have ksr5 := ksr.kp (Kp.of hS5)
  have W5 := W.same hS5
  have wsdl : ws.dropLast.length = ws.length - 1 := List.length_dropLast
  subst e5
  refine ⟨_, rfl, _, rfl, d, fs, t1, rfl, .inl hd5, ks5, hst5, _, rfl, ?_⟩
  cases hf : (at_ fs t1).isSome with
  | true =>
    have hthere := at_some.mp hf
    refine iteF ⟨_, ?_, fs, ws.dropLast, ss.dropLast, _, z6, z7, rfl, ⟨hS5, hd5, hw5, al5, so5, fun e he => ?_, I.nd, ks5, ?_, by omega⟩, rfl⟩
    · omega
    · obtain ⟨n, as, h1, h2, h3, h4⟩ := I.en e he
      refine ⟨n, as, h1, h2.kp kp35, h3, fun h0 => ⟨(h4 h0).1, fun k t ht => ?_⟩⟩
      obtain ⟨q1, n', q2, q3, q4⟩ := (h4 h0).2 k t ht
      refine ⟨q1, n', q2, q3, q4.elim .inl fun z => ?_⟩
      rcases split t z with z | z
      · exact .inr z
      · exact .inl (by rw [z]; exact hthere)
    · rcases I.st with z | z
      · exact .inl z
      · rcases split s z with z | z
        · exact .inr z
        · exact .inl (by rw [z]; exact hthere)
  | false =>
    obtain ⟨ew, hew, ew1⟩ := rkey t1 t1r
    obtain ⟨lw, elw, wlw⟩ := W5.wl ew hew
    rw [ew1] at wlw
    have atw : at_ es t1 = some (.ref lw) := by rw [← ew1, ← elw]; exact at_of W.nd hew
    obtain ⟨a1, r1, rfl, _, _⟩ := id hst5
    have fs1len : fs.length + 1 ≤ 52 := by
      have t1new : t1 ∉ fs.map (·.1) := fun z => by
        obtain ⟨e, he, e2⟩ := List.mem_map.mp z
        rw [at_some.mpr ⟨e, he, e2⟩] at hf
        exact nomatch hf
      have := sits_len pok (L := a + b) (by omega) (D := t1 :: fs.map (·.1)) (List.nodup_cons.mpr ⟨t1new, I.nd⟩) fun t ht => by
        rcases List.mem_cons.mp ht with z | z
        · rw [z]; exact rok _ t1r
        · obtain ⟨e, he, rfl⟩ := List.mem_map.mp z
          exact fok e he
      simpa using this
    -- behind the answers
    have rest : ∀ (A : Addr) (H6 : Hp) (acc : List V) (as : List Sit), Same (upd H4 wl (.lst ws.dropLast)) H6 → (upd H4 wl (.lst ws.dropLast)) A = none → H6 A = some (.lst acc) → All2 (ST H6) acc as → (n1 = 0 → as = []) → (0 < n1 → as.length = p.m ∧ ∀ (k : Nat) (t : Sit), as[k]? = some t → LH.Next p.mv a b t1 k t ∧ ∃ n' : Nat, at_ rs t = some (.int n') ∧ n' < n1) →
        ∃ v, v = V.ref A ∧ ∀ t H7 x y, Same H6 H7 → H7 t = some (.tup [.ref a1, .int n1, y]) → NT H7 y as → x = V.ref t → ∃ H8, H8 = upd H7 d (dicO P w d (fs ++ [((t1, a1, .ref t) : Ent)])) ∧ ∃ H9, H9 = upd H8 wl (.lst (ws.dropLast ++ acc)) ∧ H8 wl = some (.lst ws.dropLast) ∧ H8 A = some (.lst acc) ∧ ws.dropLast.length + acc.length ≤ 1000 ∧
          TInv P w H H9 p a b rs s d wl (fs ++ [((t1, a1, .ref t) : Ent)]) (ws.dropLast ++ acc) (ss.dropLast ++ as) ∧ (52 - (fs ++ [((t1, a1, .ref t) : Ent)]).length) * 16 + (ws.dropLast ++ acc).length < (52 - fs.length) * 16 + ws.length := by
      intro A H6 acc as hS6 hA hA6 hacc z1 z2
      refine ⟨_, rfl, fun t H7 x y hS7 ht7 hNT _ => ⟨_, rfl, _, rfl, ?_, ?_, ?_, ?_, ?_⟩⟩
      · rw [upd_ne (Ne.symm hdl)]
        exact hS7 _ _ (hS6 _ _ hw5)
      · have hAd : A ≠ d := fun e => by rw [e, hd5] at hA; exact nomatch hA
        rw [upd_ne hAd]
        exact hS7 _ _ hA6
      · have := hacc.1
        have : as.length ≤ 3 := by
          by_cases h0 : n1 = 0
          · rw [z1 h0]; simp
          · have := (z2 (by omega)).1
            omega
        omega
      · have hd7 := hS7 _ _ (hS6 _ _ hd5)
        have kp8 : Kp H7 (upd H7 d (dicO P w d (fs ++ [((t1, a1, .ref t) : Ent)]))) := Kp.put hd7 fun z => z
        have hw8 : (upd H7 d (dicO P w d (fs ++ [((t1, a1, .ref t) : Ent)]))) wl = some (.lst ws.dropLast) := by
          rw [upd_ne (Ne.symm hdl)]
          exact hS7 _ _ (hS6 _ _ hw5)
        have kp9 : Kp H7 (upd (upd H7 d (dicO P w d (fs ++ [((t1, a1, .ref t) : Ent)]))) wl (.lst (ws.dropLast ++ acc))) := kp8.trans (Kp.lst hw8)
        have kp69 := (Kp.of hS7).trans kp9
        have kp59 := (Kp.of hS6).trans kp69
        have al9 := al5.mono fun _ _ z => ST.kp kp59 z
        have hac9 := hacc.mono fun _ _ z => ST.kp kp69 z
        have al6 : as.length ≤ 3 := by
          by_cases h0 : n1 = 0
          · rw [z1 h0]; simp
          · have := (z2 (by omega)).1
            omega
        have a6 := hacc.1
        refine ⟨same_put (same_put (hS5.trans (hS6.trans hS7)) hd) hwl0, by rw [upd_ne hdl]; exact upd_same, upd_same, al9.append hac9, fun u hu => ?_, fun e he => ?_, nd_snoc hf I.nd, fun e he => ?_, ?_, ?_⟩
        · rcases List.mem_append.mp hu with z | z
          · exact so5 u z
          · by_cases h0 : n1 = 0
            · rw [z1 h0] at z
              exact nomatch z
            · obtain ⟨k, hk⟩ := List.mem_iff_getElem?.mp z
              obtain ⟨_, n', h1, _⟩ := (z2 (by omega)).2 k u hk
              rw [h1]
              rfl
        · rcases List.mem_append.mp he with z | z
          · obtain ⟨n, as', h1, h2, h3, h4⟩ := I.en e z
            refine ⟨n, as', h1, h2.kp (kp35.trans kp59), h3, fun h0 => ⟨(h4 h0).1, fun k u hk => ?_⟩⟩
            obtain ⟨q1, n', q2, q3, q4⟩ := (h4 h0).2 k u hk
            refine ⟨q1, n', q2, q3, ?_⟩
            rcases q4 with ⟨e', w1, w2⟩ | w1
            · exact .inl ⟨e', List.mem_append_left _ w1, w2⟩
            · rcases split u w1 with w2 | w2
              · exact .inr (List.mem_append_left _ w2)
              · exact .inl ⟨_, List.mem_append_right _ (List.mem_singleton.mpr rfl), w2.symm⟩
          · rw [List.mem_singleton.mp z]
            refine ⟨n1, as, hn1, ⟨t, _, y, rfl, kp9 _ _ ht7 True.intro, hst5.kp kp59, hNT.kp kp9⟩, z1, fun h0 => ⟨(z2 h0).1, fun k u hk => ?_⟩⟩
            obtain ⟨q1, n', q2, q3⟩ := (z2 h0).2 k u hk
            exact ⟨q1, n', q2, q3, .inr (List.mem_append_right _ (List.mem_of_getElem? hk))⟩
        · rcases List.mem_append.mp he with z | z
          · exact (ks5 e z).kp kp59
          · rw [List.mem_singleton.mp z]
            exact hst5.kp kp59
        · rcases I.st with ⟨e', w1, w2⟩ | w1
          · exact .inl ⟨e', List.mem_append_left _ w1, w2⟩
          · rcases split s w1 with w2 | w2
            · exact .inr (List.mem_append_left _ w2)
            · exact .inl ⟨_, List.mem_append_right _ (List.mem_singleton.mpr rfl), w2.symm⟩
        · rw [List.length_append, List.length_append, List.length_singleton]
          omega
      · have al6 : as.length ≤ 3 := by
          by_cases h0 : n1 = 0
          · rw [z1 h0]; simp
          · have := (z2 (by omega)).1
            omega
        have a6 := hacc.1
        rw [List.length_append, List.length_append, List.length_singleton]
        omega
    refine iteT ?_
    refine ⟨_, rfl, _, rfl, dr, rs, t1, _, rfl, .inl hdr5, ksr5, hst5, hn1, (n1 : Int), 0, rfl, rfl, _, rfl, ?_⟩
    by_cases h0 : n1 = 0
    · rw [decide_eq_false (by omega)]
      refine iteF ⟨by simp, fun A H6 hA hS6 hA6 => ?_⟩
      obtain ⟨acc, eacc⟩ : ∃ acc : List V, acc = [] := ⟨_, rfl⟩
      obtain ⟨as, eas⟩ : ∃ as : List Sit, as = [] := ⟨_, rfl⟩
      have hacc : All2 (ST H6) acc as := by rw [eacc, eas]; exact .nil
      have z1 : n1 = 0 → as = [] := fun _ => eas
      have z2 : 0 < n1 → as.length = p.m ∧ ∀ (k : Nat) (t : Sit), as[k]? = some t → LH.Next p.mv a b t1 k t ∧ ∃ n' : Nat, at_ rs t = some (.int n') ∧ n' < n1 := fun h => by omega
      rw [← eacc] at hA6
      obtain ⟨_, _, fin⟩ := rest A H6 acc as hS6 hA hA6 hacc z1 z2
      have hdr6 := hS6 _ _ hdr5
      have ksr6 := ksr5.kp (Kp.of hS6)
      refine ⟨_, rfl, _, rfl, _, rfl, dr, rs, t1, _, rfl, .inl hdr6, ksr6, hst5.kp (Kp.of hS6), hn1, _, rfl, A, acc, rfl, sqL hA6, fun y H7 hy hS7 hy7 => ⟨by simp, fun t H8 ht hS8 ht8 => ?_⟩⟩
      have hS68 := hS7.trans hS8
      have hNT : NT H8 (.ref y) as := ⟨y, acc, rfl, hS8 _ _ hy7, hacc.mono fun _ _ z => z.kp (Kp.of hS68)⟩
      obtain ⟨H9, e9, H10, e10, f1, f2, f3, f4, f5⟩ := fin t H8 _ (.ref y) hS68 ht8 hNT rfl
      subst e9 e10
      refine ⟨_, rfl, _, rfl, d, fs, t1, a1, rfl, hS68 _ _ (hS6 _ _ hd5), ks5.kp (Kp.of (hS6.trans hS68)), rfl, hst5.kp (Kp.of (hS6.trans hS68)), by omega, ?_⟩
      rw [put_new hf]
      exact ⟨_, rfl, .inl ⟨rfl, _, sqL f1⟩, _, rfl, wl, A, ws.dropLast, acc, rfl, rfl, f1, f2, line1000 f3, _, f5, _, _, _, _, _, _, rfl, f4, rfl⟩
    · rw [decide_eq_true (by omega)]
      refine iteT ?_
      obtain ⟨xs, hlw, hxl, hxs⟩ := wlw
      have hdw6 := hdw5
      obtain ⟨er, her, er1, er2⟩ := at_mem hn1
      obtain ⟨nr, v1, v2, v3⟩ := D.1.v er her
      rw [er2] at v1
      injection v1 with v1
      have enr : nr = n1 := by omega
      subst enr
      rw [er1] at v3
      refine ⟨_, rfl, _, rfl, dw, es, t1, _, rfl, .inl hdw5, W5.ks, hst5, atw, lw, xs, rfl, sqL hlw, by omega, by simp, fun k acc H6 => ∃ as : List Sit, All2 (ST H6) acc as ∧ as.length = k ∧ ∀ (j : Nat) (t : Sit), as[j]? = some t → LH.Next p.mv a b t1 j t ∧ ∃ n' : Nat, at_ rs t = some (.int n') ∧ n' < nr, ⟨[], .nil, rfl, fun j t e => by simp at e⟩, fun k acc H6 H7 kp ⟨as, h1, h2⟩ => ⟨as, h1.mono fun _ _ z => z.kp kp, h2⟩, fun k x H6 acc hx ⟨as, h1, h2, h3⟩ hS6 => mTT.mk (yesT ?_), fun A acc H6 hA hS6 hA6 ⟨as, hacc, has, hnx⟩ => ?_⟩
      · obtain ⟨ts, hnt, hmem, hlen5⟩ := hxs k x hx
        have hkm : k < p.m := by
          have := (List.getElem?_eq_some_iff.mp hx).1
          omega
        obtain ⟨t0, n0, w1, w2, w3⟩ := v3 (by omega) k hkm
        refine mTE.mk ⟨_, rfl, _, rfl, _, _, rfl, dr, rs, ts, rfl, .inl (hS6 _ _ hdr5), ksr5.kp (Kp.of hS6), fun e he => let ⟨n, q1, _⟩ := D.1.v e he; ⟨n, q1⟩, hnt.kp (Kp.of hS6), hlen5, ⟨t0, (hmem t0).mpr w1, by rw [w2]; rfl⟩, fun v H7 t n hS7 hst hin hn hmin => ⟨hS7, as ++ [t], (h1.mono fun _ _ z => z.kp (Kp.of hS7)).snoc hst, by simp [h2], fun j u hu => ?_⟩⟩
        by_cases hj : j < as.length
        · rw [List.getElem?_append_left hj] at hu
          exact h3 j u hu
        · rw [List.getElem?_append_right (by omega)] at hu
          have hj2 : j - as.length = 0 := by
            have := (List.getElem?_eq_some_iff.mp hu).1
            simp at this
            omega
          rw [hj2] at hu
          simp only [List.getElem?_cons_zero, Option.some.injEq] at hu
          subst hu
          have ej : j = k := by omega
          subst ej
          have := hmin t0 ((hmem t0).mpr w1) n0 w2
          exact ⟨(hmem t).mp hin, n, hn, by omega⟩
      have z1 : nr = 0 → as = [] := fun h => (h0 h).elim
      have z2 : 0 < nr → as.length = p.m ∧ ∀ (k : Nat) (t : Sit), as[k]? = some t → LH.Next p.mv a b t1 k t ∧ ∃ n' : Nat, at_ rs t = some (.int n') ∧ n' < nr := fun _ => ⟨by omega, hnx⟩
      obtain ⟨_, _, fin⟩ := rest A H6 acc as hS6 hA hA6 hacc z1 z2
      have hdr6 := hS6 _ _ hdr5
      have ksr6 := ksr5.kp (Kp.of hS6)
      refine ⟨_, rfl, _, rfl, _, rfl, dr, rs, t1, _, rfl, .inl hdr6, ksr6, hst5.kp (Kp.of hS6), hn1, _, rfl, A, acc, rfl, sqL hA6, fun y H7 hy hS7 hy7 => ⟨by simp, fun t H8 ht hS8 ht8 => ?_⟩⟩
      have hS68 := hS7.trans hS8
      have hNT : NT H8 (.ref y) as := ⟨y, acc, rfl, hS8 _ _ hy7, hacc.mono fun _ _ z => z.kp (Kp.of hS68)⟩
      obtain ⟨H9, e9, H10, e10, f1, f2, f3, f4, f5⟩ := fin t H8 _ (.ref y) hS68 ht8 hNT rfl
      subst e9 e10
      refine ⟨_, rfl, _, rfl, d, fs, t1, a1, rfl, hS68 _ _ (hS6 _ _ hd5), ks5.kp (Kp.of (hS6.trans hS68)), rfl, hst5.kp (Kp.of (hS6.trans hS68)), by omega, ?_⟩
      rw [put_new hf]
      exact ⟨_, rfl, .inl ⟨rfl, _, sqL f1⟩, _, rfl, wl, A, ws.dropLast, acc, rfl, rfl, f1, f2, line1000 f3, _, f5, _, _, _, _, _, _, rfl, f4, rfl⟩
def sp_verdict (K : PySem.W.Frag) : Sp := fun vs H Q _ => ∃ x0 x1 x2, vs = [x0, x1, x2] ∧ ∃ (p : Pd) (a b : Nat) (s : Sit), PL K H x0 p ∧ NW K H x1 a b ∧ ST H x2 s ∧ SitOk p (a + b) s ∧ ¬ KeptP p a b s ∧
  ∀ t x y H' trs, Same H H' → H' t = some (.tup [x, y]) → TTs H' y trs → Prf p a b trs s → Q (.ref t) H'
theorem ok_verdict {P : Program} {w : World} {K : PySem.W.Frag} {mg : Str → Option Value} {base : Heap} (T : Tx K mg) : Fn P w K mg base 8 (He.ga K "verdict") (sp_verdict K) := by
  obtain ⟨fd, F⟩ := T.d_verdict
  have hb : Binds K fd ["plant", "news", "situation"] [] := F.bindsN fun _ _ _ _ _ _ us hl => match us, hl with | [_, _, _], _ => rfl
  refine fn_def F sc_verdict hb (fun vs H Q E h => by obtain ⟨_, _, _, rfl, _⟩ := h; rfl) fun cdv A outer s H vs Q E hr h => ⟨_, PSs.nox (pss_cons (ps_expr (ce_call (ok_need_all (P := P) (w := w) T) (hr.mono (by decide)) rfl T.g_need_all (pa_cons (pv 0) (pa_cons (pv 1) (pa_cons (pv 2) pa_nil)))))
      (pss_cons (ps_set (i := 3) sc_verdict.nd rfl (by first | exact Or.inl rfl | exact Or.inr rfl) (ce_call (ok_ways_from (P := P) (w := w) T) (hr.mono (by decide)) rfl T.g_ways_from (pa_cons (pv 0) (pa_cons (pv 1) (pa_cons (pv 2) pa_nil)))))
      (pss_cons (ps_set (i := 4) sc_verdict.nd rfl (by first | exact Or.inl rfl | exact Or.inr rfl) (ce_call (ok_ranks_in (P := P) (w := w) T) (hr.mono (by decide)) rfl T.g_ranks_in (pa_cons (pv 0) (pa_cons (pv 3) pa_nil))))
      (pss_cons (ps_if (pt_cmpR (kx_inS (P := P) (w := w) hr.units) (pv 2) (pv 4) (by rfl)) (pss_one (ps_ret (ce_tup (pa_cons (ce_gt rfl T.t_LOST) (pa_cons (ce_call (ok_triples_from (P := P) (w := w) T) (hr.mono (by decide)) rfl T.g_triples_from (pa_cons (pv 4) (pa_cons (pv 3) (pa_cons (pv 2) pa_nil)))) pa_nil))))) pss_nil)
      (pss_one ps_never))))), ?_⟩
  obtain ⟨x0, x1, x2, rfl, h⟩ := h
  obtain ⟨p, a, b, s, hp, hn, hs, ok, hnk, q⟩ := h
  refine ⟨_, rfl, _, rfl, _, rfl, _, _, _, rfl, p, a, b, s, hp, hn, hs, ok, fun H1 hS1 => ?_⟩
  have k1 := Kp.of hS1
  refine ⟨_, rfl, _, rfl, _, rfl, _, _, _, rfl, p, a, b, s, hp.kpS hS1, hn.kp k1, hs.kp k1, ok, fun d H2 es hS2 hd0 hd2 W hse elen => ?_⟩
  have hS12 := hS1.trans hS2
  refine ⟨_, rfl, _, rfl, _, _, rfl, p, a, b, d, es, hp.kpS hS12, hn.1, rfl, hd2, W, elen, fun dr H3 rs hS3 hdr hdr3 ks3 D => ?_⟩
  have hS13 := hS12.trans hS3
  have hs3 := hs.kp (Kp.of hS13)
  have hat : (at_ rs s).isSome = true := by
    cases h : (at_ rs s).isSome with
    | true => rfl
    | false => exact (hnk (kept_of_done W D hse h)).elim
  refine ⟨_, rfl, _, rfl, dr, rs, s, rfl, .inl hdr3, ks3, hs3, _, rfl, ?_⟩
  rw [hat]
  refine iteT ⟨_, rfl, _, rfl, _, rfl, _, _, _, rfl, p, a, b, s, dr, d, rs, es, rfl, rfl, hs3, hp.ge, hn.1, hdr3, ks3, hS3 _ _ hd2, W.same hS3, D, hat, fun v H4 trs hS4 hv prf => ⟨by simp, fun t H5 ht hS5 ht5 => ?_⟩⟩
  obtain ⟨c, xs, rfl, hc, hal⟩ := hv
  exact q t _ _ H5 trs (hS13.trans (hS4.trans hS5)) ht5 ⟨c, xs, rfl, hS5 _ _ hc, hal.mono fun _ _ z => z.kp (Kp.of hS5)⟩ prf
end Lh
set_option Elab.async false
set_option linter.all false
set_option maxRecDepth 100000
set_option maxHeartbeats 4000000
/-! The way to a place. -/
namespace Lh
open PySem PySem.Spec PyProof.Rows L2
theorem aft_snoc {mv : Mv} {o x : Int} : ∀ (r : List Int) (S : Int → Prop), LH.aft mv S (r ++ [o]) x ↔ ∃ y, LH.aft mv S r y ∧ x ∈ LH.ans mv y o
  | [], S => Iff.rfl
  | o' :: r, S => aft_snoc r _
/-- answers of the plant that stand in a list -/
def OkTs (p : Pd) (ts : List Tri) : Prop := ∀ t ∈ ts, InR p t ∧ t.2.2 ∈ LH.ans p.mv t.1 t.2.1
/-- they all stand in mv -/
def All (mv : Mv) (ts : List Tri) : Prop := ∀ t ∈ ts, t.2.2 ∈ LH.ans mv t.1 t.2.1
def sp_way_to (K : PySem.W.Frag) : Sp := fun vs H Q _ => ∃ x0 x1 x2 x3, vs = [x0, x1, x2, x3] ∧ ∃ (p : Pd) (pl e : Int) (row : List Int), PL K H x0 p ∧ x1 = .int pl ∧ 0 ≤ pl ∧ pl < p.mv.length ∧ IT H x2 row ∧ (∀ o ∈ row, 0 ≤ o ∧ o < p.m) ∧ row.length ≤ 8 ∧ x3 = .int e ∧ LH.aft p.mv (fun x => x = pl) row e ∧
  ∀ F H' xs ts, Same H H' → H F = none → H' F = some (.lst xs) → All2 (TR H') xs ts → ts.length = row.length → OkTs p ts → (∀ mv', All mv' ts → LH.aft mv' (fun x => x = pl) row e) → Q (.ref F) H'
theorem ok_way_to {P : Program} {w : World} {K : PySem.W.Frag} {mg : Str → Option Value} {base : Heap} (T : Tx K mg) : Fn P w K mg base 4 (He.ga K "way_to") (sp_way_to K) := by
  obtain ⟨fd, F⟩ := T.d_way_to
  have hb : Binds K fd ["plant", "place", "row", "end"] [] := F.bindsN fun _ _ _ _ _ _ us hl => match us, hl with | [_, _, _, _], _ => rfl
  refine fn_def F sc_way_to hb (fun vs H Q E h => by obtain ⟨_, _, _, _, rfl, _⟩ := h; rfl) fun cdv A outer s H vs Q E hr h => ⟨_, PSs.nox (pss_cons (ps_set (i := 4) sc_way_to.nd rfl (by first | exact Or.inl rfl | exact Or.inr rfl) (ce_lst (pa_cons (ce_tup (pa_cons (pv 1) pa_nil)) pa_nil)))
      (pss_cons (ps_for PassesOwn.never rfl (pi_tup (pv 2)) (pg_name (i := 5) sc_way_to.nd rfl (by first | exact Or.inl rfl | exact Or.inr rfl)) (pss_one (ps_expr (kx_bm (K := K) <| pe_bm PySem.F.plainAttrs_list PySem.F.slot_list_append PySem.F.type_list_append mt_append (pv 4) (pa_cons (ce_call (ok_led (P := P) (w := w) T) (hr.mono (by decide)) rfl T.g_led (pa_cons (pv 0) (pa_cons (pe_ix (kx_ix_list (K := K)) (pv 4) (pe_un un_neg pe_int) (fun _ _ => rfl)) (pa_cons (pv 5) pa_nil)))) pa_nil)))))
      (pss_cons (ps_set (i := 6) sc_way_to.nd rfl (by first | exact Or.inl rfl | exact Or.inr rfl) (ce_lst pa_nil))
      (pss_cons (ps_for PassesOwn.never rfl (pi_range3 rfl T.b_range (pa_cons (pe_op op_sub (pe_callB (cl_len (K := K)) rfl T.b_len boot_len (pa_cons (pv 2) pa_nil)) pe_int) (pa_cons (pe_un un_neg pe_int) (pa_cons (pe_un un_neg pe_int) pa_nil)))) (pg_name (i := 7) sc_way_to.nd rfl (by first | exact Or.inl rfl | exact Or.inr rfl)) (pss_cons (ps_set (i := 8) sc_way_to.nd rfl (by first | exact Or.inl rfl | exact Or.inr rfl) (pe_ix (kx_ix_list (K := K)) (kx_lc (K := K) (ce_lc .t rfl sc_way_to.nd (pe_ix (kx_ix_list (K := K)) (pv 4) (pv 7) (fun _ _ => rfl)) (blkOk_by (own := [("one", 9)]) (N := n_way_to) (sc := defScope s_way_to) (by decide +kernel)) (fun _ _ _ _ _ => pg_name (i := 9) sc_way_to.nd rfl (Or.inl rfl)) (fun _ _ _ _ _ => (pts_one (pt_cmpR (kx_in (K := K)) (pv 3) (pe_ix (kx_ix_tup (K := K)) (pe_ix (kx_ix_tup (K := K)) (ce_prop (pv 0) T.pl_moves (ok_Plant_moves T).run (hr.mono (by decide))) (pv 9) (fun _ _ => rfl)) (pe_ix (kx_ix_tup (K := K)) (pv 2) (pv 7) (fun _ _ => rfl)) (fun _ _ => rfl)) (by rfl)))) (fun _ _ _ _ _ => (pv 9)))) pe_int (fun _ _ => rfl)))
      (pss_cons (ps_expr (kx_bm (K := K) <| pe_bm PySem.F.plainAttrs_list PySem.F.slot_list_append PySem.F.type_list_append mt_append (pv 6) (pa_cons (ce_tup (pa_cons (pv 8) (pa_cons (pe_ix (kx_ix_tup (K := K)) (pv 2) (pv 7) (fun _ _ => rfl)) (pa_cons (pv 3) pa_nil)))) pa_nil)))
      (pss_one (ps_set (i := 3) sc_way_to.nd rfl (by first | exact Or.inl rfl | exact Or.inr rfl) (pv 8))))))
      (pss_one (ps_ret (pv 6))))))), ?_⟩
  obtain ⟨x0, x1, x2, x3, rfl, h⟩ := h
  obtain ⟨p, pl, e, row, hp, rfl, p0, p1, ⟨rb, rfl, hrb⟩, hrow, rl8, rfl, he, q⟩ := h
  have n4 := hp.ge.wf.n4
  obtain ⟨pa, pdx, pfs, rfl, hpa⟩ := hp.at_
  refine ⟨_, rfl, by simp, fun t H1 ht hS1 ht1 => ⟨by simp, fun L H2 hL hS2 hL2 => ?_⟩⟩
  have hS12 := hS1.trans hS2
  have hL0 := none_back hS1 hL
  refine ⟨_, rfl, rb, rfl, ⟨_, sqT (hS12 _ _ hrb)⟩, for_tup (xs := row.map V.int) (fun k σ H3 => ∃ z5, σ = [some (.ref pa), some (.int pl), some (.ref rb), some (.int e), some (.ref L), z5, none, none, none, none] ∧ Same H H3 ∧ ∃ ls lays, H3 L = some (.lst ls) ∧ All2 (IT H3) ls lays ∧ lays.length = k + 1 ∧ ∀ (j : Nat) (lay : List Int), lays[j]? = some lay → Asc p.mv.length lay ∧ ∀ x, x ∈ lay ↔ LH.aft p.mv (fun x => x = pl) (row.take j) x)
    ⟨none, rfl, hS12, _, [[pl]], hL2, .cons ⟨t, rfl, hS2 _ _ ht1⟩ .nil, rfl, fun j lay h => ?_⟩ (fun k σ H3 _ ⟨_, _, z, _⟩ => sqT (z _ _ hrb)) (fun k x σ H3 hx ⟨z5, e3, hS3, ls, lays, hl3, hal, hlen, hlay⟩ => ?_) fun σ H3 ⟨z5, e3, hS3, ls, lays, hl3, hal, hlen, hlay⟩ => ?_⟩
  · match j, h with
    | 0, h =>
      cases h
      refine ⟨asc_one p0 p1, fun x => ?_⟩
      show x ∈ [pl] ↔ x = pl
      simp
    | j + 1, h => simp at h
  · subst e3
    obtain ⟨o, ho, rfl⟩ := ints_at hx
    obtain ⟨o0, o1⟩ := hrow o (List.mem_of_getElem? ho)
    have kl := (List.getElem?_eq_some_iff.mp ho).1
    have hlsl := hal.1
    have lne : ls ≠ [] := fun z => by rw [z] at hlsl; simp at hlsl; omega
    obtain ⟨pre, v, els⟩ : ∃ pre v, ls = pre ++ [v] := ⟨_, _, (List.dropLast_concat_getLast lne).symm⟩
    subst els
    have prel : pre.length = k := by simp at hlsl; omega
    obtain ⟨lay, hlk, hv⟩ := hal.get (i := k) (x := v) (by rw [← prel]; simp)
    obtain ⟨lasc, lmem⟩ := hlay k lay hlk
    refine ⟨_, rfl, .inl ⟨rfl, _, sqL hl3⟩, _, rfl, _, rfl, 1, rfl, L, _, -1, v, rfl, rfl, sqL hl3, atI_last pre v, _, rfl, ?_⟩
    refine ⟨_, _, _, rfl, p, lay, o, hp.kpS hS3, hv, lasc, rfl, o0, o1, fun w H4 r hS4 hw hasc hne hmem => ?_⟩
    have hl4 := hS4 _ _ hl3
    refine ⟨L, pre ++ [v], w, rfl, rfl, hl4, small1000 (by simp; omega), _, rfl, same_put (hS3.trans hS4) hL0, _, lays ++ [r], upd_same, ?_, by simp [hlen], fun j lay' hj => ?_⟩
    · have kp5 : Kp H4 (upd H4 L (.lst (pre ++ [v] ++ [w]))) := Kp.lst hl4
      exact (hal.mono fun _ _ z => z.kp ((Kp.of hS4).trans kp5)).snoc (hw.kp kp5)
    · by_cases hjl : j < lays.length
      · rw [List.getElem?_append_left hjl] at hj
        exact hlay j lay' hj
      · rw [List.getElem?_append_right (by omega)] at hj
        have hj2 : j - lays.length = 0 := by
          have := (List.getElem?_eq_some_iff.mp hj).1
          simp at this
          omega
        rw [hj2] at hj
        simp only [List.getElem?_cons_zero, Option.some.injEq] at hj
        subst hj
        have ej : j = k + 1 := by omega
        subst ej
        refine ⟨hasc, fun x => ?_⟩
        rw [hmem x, take_succ' ho, aft_snoc]
        exact ⟨fun ⟨y, h1, h2⟩ => ⟨y, (lmem y).mp h1, h2⟩, fun ⟨y, h1, h2⟩ => ⟨y, (lmem y).mpr h1, h2⟩⟩
  subst e3
  rw [List.length_map] at hlen
  refine ⟨by simp, fun F H4 hF hS4 hF4 => ?_⟩
  have hS14 := hS3.trans hS4
  have hF0 := none_back hS3 hF
  have hl4 := hS4 _ _ hl3
  have hFL : F ≠ L := fun z => by rw [z, hl3] at hF; exact nomatch hF
  have lsl := hal.1
  refine ⟨_, rfl, _, row.length, rfl, .inr ⟨_, sqT (hS14 _ _ hrb), by simp⟩, (row.length : Int), 1, rfl, rfl, 1, rfl, 1, rfl, (row.length : Int) - 1, -1, -1, _, rfl, RgC.neg (by omega) (by omega) (by omega) (by omega), ?_⟩
  have en : ((row.length : Int) - 1 - -1).toNat = row.length := by omega
  rw [en]
  refine for_rangeC (fun i σ H5 => ∃ e5 z7 z8, σ = [some (.ref pa), some (.int pl), some (.ref rb), some (.int e5), some (.ref L), z5, some (.ref F), z7, z8, none] ∧ Same H H5 ∧ H5 L = some (.lst ls) ∧ All2 (IT H5) ls lays ∧ ∃ fv ts, H5 F = some (.lst fv) ∧ All2 (TR H5) fv ts ∧ ts.length = i ∧ LH.aft p.mv (fun x => x = pl) (row.take (row.length - i)) e5 ∧ OkTs p ts ∧ ∀ mv', All mv' ts → LH.aft mv' (fun x => x = e5) (row.drop (row.length - i)) e)
    ⟨e, none, none, rfl, hS14, hl4, hal.mono fun _ _ z => z.kp (Kp.of hS4), [], [], hF4, .nil, rfl, by simpa using he, (fun t h => nomatch h), fun mv' _ => ?_⟩ (fun i σ H5 hi ⟨e5, z7, z8, hσ, hS5, hl5, hal5, fv, ts, hf5, hts, htl, haft, hok, hall⟩ => ?_) fun σ H5 ⟨e5, z7, z8, hσ, hS5, hl5, hal5, fv, ts, hf5, hts, htl, haft, hok, hall⟩ => ?_
  · rw [Nat.sub_zero, List.drop_length]
    rfl
  · subst hσ
    obtain ⟨at_, hat⟩ : ∃ at_ : Nat, at_ = row.length - 1 - i := ⟨_, rfl⟩
    have eat : (row.length : Int) - 1 + (i : Nat) * -1 = (at_ : Int) := by omega
    rw [eat]
    have atl : at_ < row.length := by omega
    have hoat := List.getElem?_eq_getElem atl
    generalize row[at_] = o at hoat
    obtain ⟨o0, o1⟩ := hrow o (List.mem_of_getElem? hoat)
    have e1 : row.length - i = at_ + 1 := by omega
    rw [e1, take_succ' hoat, aft_snoc] at haft
    obtain ⟨lay, hlk⟩ : ∃ lay, lays[at_]? = some lay := ⟨_, List.getElem?_eq_getElem (by omega)⟩
    obtain ⟨v, hvk, lb, rfl, hlb⟩ := hal5.get' hlk
    obtain ⟨lasc, lmem⟩ := hlay at_ lay hlk
    have lal := Asc_len lasc
    have hrb5 := hS5 _ _ hrb
    have hoat2 : (row.map V.int)[at_]? = some (.int o) := by rw [List.getElem?_map, hoat]; rfl
    refine ⟨_, rfl, _, rfl, L, ls, (at_ : Int), _, rfl, rfl, sqL hl5, atI_nat hvk, lb, lay.map V.int, rfl, sqT hlb, by simp; omega, by simp, fun k acc _ => acc = ((lay.take k).filter fun x => decide (e5 ∈ LH.ans p.mv x o)).map V.int, by simp, fun _ _ _ _ _ z => z, fun k x H6 acc hx hR hS6 => ?_, fun D acc H6 hD hS6 hd6 hR => ?_⟩
    · obtain ⟨y, hy, rfl⟩ := ints_at hx
      obtain ⟨y0, y1⟩ := lasc.2 y (List.mem_of_getElem? hy)
      have hR : acc = _ := hR
      refine mTT.mk ⟨_, rfl, _, rfl, pa, _, pdx, pfs, rfl, rfl, (hS5.trans hS6) _ _ hpa, _, rfl, p, hp.kpS (hS5.trans hS6), fun mvv hm => ⟨_, rfl, ?_⟩⟩
      obtain ⟨a1, xs, rowv, r, rfl, f1, f2, f3, f4⟩ := hm.row y0 y1
      obtain ⟨a2, ys, c, l, rfl, g1, g2, g3, g4⟩ := f4.cell o0 (by rw [hp.ge.wf.len f3]; exact o1)
      have el := ans_of f3 g3
      obtain ⟨cc, rfl, hcc⟩ := g4
      refine ⟨a1, xs, y, _, rfl, rfl, sqT f1, f2, _, rfl, _, rfl, rb, _, _, _, rfl, rfl, sqT (hS6 _ _ hrb5), atI_nat hoat2, a2, ys, o, _, rfl, rfl, sqT g1, g2, cc, _, rfl, .inr (sqT hcc), rfl, flat_ints _, _, rfl, ?_⟩
      show if (if false = true then _ else inV (.int e5) (l.map V.int)) = true then _ else _
      rw [if_neg (show ¬ (false = true) by decide), inV_ints, ← el]
      have ek := take_succ' hy
      by_cases hin : e5 ∈ LH.ans p.mv y o
      · rw [decide_eq_true hin]
        refine iteT (mTE.mk ⟨_, rfl, fun _ _ e => e, ?_⟩)
        dsimp only
        rw [hR, ek]
        simp [hin]
      · rw [decide_eq_false hin]
        refine iteF ⟨fun _ _ e => e, ?_⟩
        dsimp only
        rw [hR, ek]
        simp [hin]
    · have hR : acc = _ := hR
      rw [List.take_of_length_le (by simp)] at hR
      obtain ⟨y, hy1, hy2⟩ := haft
      have ymem : y ∈ lay.filter fun x => decide (e5 ∈ LH.ans p.mv x o) := List.mem_filter.mpr ⟨(lmem y).mpr hy1, decide_eq_true hy2⟩
      obtain ⟨b0, br, hbr⟩ : ∃ b0 br, (lay.filter fun x => decide (e5 ∈ LH.ans p.mv x o)) = b0 :: br := by
        cases h : lay.filter fun x => decide (e5 ∈ LH.ans p.mv x o) with
        | nil => rw [h] at ymem; exact nomatch ymem
        | cons b0 br => exact ⟨b0, br, rfl⟩
      have bmem : b0 ∈ lay.filter fun x => decide (e5 ∈ LH.ans p.mv x o) := by rw [hbr]; simp
      obtain ⟨bl, be⟩ := List.mem_filter.mp bmem
      have be := of_decide_eq_true be
      obtain ⟨b00, b01⟩ := lasc.2 b0 bl
      rw [hbr] at hR
      subst hR
      have hf6 := hS6 _ _ hf5
      have hl6 := hS6 _ _ hl5
      refine ⟨D, _, 0, .int b0, rfl, rfl, sqL hd6, at0, ?_⟩
      refine ⟨_, rfl, .inl ⟨rfl, _, sqL hf6⟩, _, rfl, _, rfl, _, rfl, rb, _, _, _, rfl, rfl, sqT (hS6 _ _ hrb5), atI_nat hoat2, _, rfl, by simp, fun t H7 ht hS7 ht7 => ?_⟩
      have hf7 := hS7 _ _ hf6
      have hl7 := hS7 _ _ hl6
      have hts1 := hts.1
      have kp67 := (Kp.of hS6).trans (Kp.of hS7)
      have kp8 : Kp H7 (upd H7 F (.lst (fv ++ [.ref t]))) := Kp.lst hf7
      refine ⟨F, fv, _, rfl, rfl, hf7, small1000 (by omega), _, rfl, ?_⟩
      have e2 : row.length - (i + 1) = at_ := by omega
      have inr : InR p (b0, o, e5) := ⟨b00, b01, o0, o1, (ans_in hp.ge be).1, (ans_in hp.ge be).2⟩
      refine ⟨b0, _, _, rfl, same_put (hS5.trans (hS6.trans hS7)) hF0, by rw [upd_ne (Ne.symm hFL)]; exact hl7, hal5.mono fun _ _ z => z.kp (kp67.trans kp8), _, ts ++ [(b0, o, e5)], upd_same, (hts.mono fun _ _ z => z.kp (kp67.trans kp8)).snoc (show TR _ _ _ from ⟨t, rfl, kp8 _ _ ht7 True.intro⟩), by simp [htl], ?_, fun t' ht' => ?_, fun mv' hall' => ?_⟩
      · rw [e2]
        exact (lmem b0).mp bl
      · rcases List.mem_append.mp ht' with z | z
        · exact hok t' z
        · rw [List.mem_singleton.mp z]
          exact ⟨inr, be⟩
      · rw [e2]
        have edrop : row.drop at_ = o :: row.drop (at_ + 1) := by
          rw [List.drop_eq_getElem_cons atl]
          congr 1
          exact (List.getElem?_eq_some_iff.mp hoat).2
        rw [edrop]
        have h1 := hall mv' fun t' ht' => hall' t' (List.mem_append_left _ ht')
        rw [e1] at h1
        refine LH.aft_mono (LH.Sub.refl mv') (row.drop (at_ + 1)) _ _ (fun x hx => ?_) e h1
        exact ⟨b0, rfl, by rw [hx]; exact hall' _ (List.mem_append_right _ (List.mem_singleton.mpr rfl))⟩
  · subst hσ
    rw [Nat.sub_self] at haft
    have e0 : e5 = pl := haft
    subst e0
    refine ⟨_, rfl, q F H5 fv ts hS5 hF0 hf5 hts htl hok fun mv' hall' => ?_⟩
    have := hall mv' hall'
    rw [Nat.sub_self] at this
    exact this
end Lh
set_option Elab.async false
set_option linter.all false
set_option maxRecDepth 100000
set_option maxHeartbeats 4000000
/-! The answers that a triple uses. -/
namespace Lh
open PySem PySem.Spec PyProof.Rows L2
/-- what stays true as long as the answers stand -/
def Holds (p : Pd) (a b : Nat) (s : Sit) (as : List Sit) (mv' : Mv) : Prop := (as = [] → ¬ LH.Clear mv' p.bad s) ∧ ∀ (k : Nat) (t : Sit), as[k]? = some t → LH.Next mv' a b s k t
theorem OkTs.append {p : Pd} {ts us : List Tri} (h : OkTs p ts) (k : OkTs p us) : OkTs p (ts ++ us) := fun t ht => (List.mem_append.mp ht).elim (h t) (k t)
def sp_used_in (K : PySem.W.Frag) : Sp := fun vs H Q _ => ∃ x0 x1 x2, vs = [x0, x1, x2] ∧ ∃ (p : Pd) (a b : Nat) (s : Sit) (as : List Sit), PL K H x0 p ∧ ST H x1 s ∧ NT H x2 as ∧ SitOk p (a + b) s ∧ a + b ≤ 2 ∧
  (as = [] → ¬ LH.Clear p.mv p.bad s) ∧ (as ≠ [] → as.length = p.m ∧ ∀ (k : Nat) (t : Sit), as[k]? = some t → LH.Next p.mv a b s k t) ∧
  ∀ F H' xs ts, Same H H' → H F = none → H' F = some (.lst xs) → All2 (TR H') xs ts → ts.length ≤ 9 → OkTs p ts → (∀ mv', All mv' ts → Holds p a b s as mv') → Q (.ref F) H'
theorem ok_used_in {P : Program} {w : World} {K : PySem.W.Frag} {mg : Str → Option Value} {base : Heap} (T : Tx K mg) : Fn P w K mg base 6 (He.ga K "used_in") (sp_used_in K) := by
  obtain ⟨fd, F⟩ := T.d_used_in
  have hb : Binds K fd ["plant", "situation", "answers"] [] := F.bindsN fun _ _ _ _ _ _ us hl => match us, hl with | [_, _, _], _ => rfl
  refine fn_def F sc_used_in hb (fun vs H Q E h => by obtain ⟨_, _, _, rfl, _⟩ := h; rfl) fun cdv A outer s H vs Q E hr h => ⟨_, PSs.nox (pss_cons (ps_asg (pv 1) (pg_tup rfl (pgs_cons (pg_name (i := 3) sc_used_in.nd rfl (by first | exact Or.inl rfl | exact Or.inr rfl)) (pgs_cons (pg_name (i := 4) sc_used_in.nd rfl (by first | exact Or.inl rfl | exact Or.inr rfl)) pgs_nil))))
      (pss_cons (ps_if (pt_cmpR (kx_eqD (K := K) hr.units) (pv 2) (ce_tup pa_nil) (nomark _)) (pss_one (ps_ret (ce_call (ok_way_to (P := P) (w := w) T) (hr.mono (by decide)) rfl T.g_way_to (pa_cons (pv 0) (pa_cons (pv 3) (pa_cons (pv 4) (pa_cons (pe_ix (kx_ix_list (K := K)) (kx_lc (K := K) (ce_lc .t rfl sc_used_in.nd (ce_call (ok_stands (P := P) (w := w) T) (hr.mono (by decide)) rfl T.g_stands (pa_cons (pv 0) (pa_cons (pv 1) pa_nil))) (blkOk_by (own := [("one", 5)]) (N := n_used_in) (sc := defScope s_used_in) (by decide +kernel)) (fun _ _ _ _ _ => pg_name (i := 5) sc_used_in.nd rfl (Or.inl rfl)) (fun _ _ _ _ _ => (pts_one (pt_cmpR (kx_in (K := K)) (pv 5) (ce_prop (pv 0) T.pl_bad (ok_Plant_bad T).run (hr.mono (by decide))) (by rfl)))) (fun _ _ _ _ _ => (pv 5)))) pe_int (fun _ _ => rfl)) pa_nil))))))) pss_nil)
      (pss_cons (ps_set (i := 6) sc_used_in.nd rfl (by first | exact Or.inl rfl | exact Or.inr rfl) (ce_lst pa_nil))
      (pss_cons (ps_for PassesOwn.never rfl (pi_enumT rfl T.b_enumerate (pa_cons (pv 2) pa_nil)) (pg_tup rfl (pgs_cons (pg_name (i := 7) sc_used_in.nd rfl (by first | exact Or.inl rfl | exact Or.inr rfl)) (pgs_cons (pg_tup rfl (pgs_cons (pg_name (i := 8) sc_used_in.nd rfl (by first | exact Or.inl rfl | exact Or.inr rfl)) (pgs_cons (pg_name (i := 9) sc_used_in.nd rfl (by first | exact Or.inl rfl | exact Or.inr rfl)) pgs_nil))) pgs_nil))) (pss_cons (ps_set (i := 10) sc_used_in.nd rfl (by first | exact Or.inl rfl | exact Or.inr rfl) (ce_tup (kx_star (K := K) <| StX.pa_star (pv 4) (pa_cons (pv 7) pa_nil))))
      (pss_one (ps_if (pt_cmpR (kx_neD (K := K) hr.units) (ce_tup (pa_cons (pv 8) (pa_cons (pv 9) pa_nil))) (ce_tup (pa_cons (pv 3) (pa_cons (pv 10) pa_nil))) (nomark _)) (pss_one (ps_expr (kx_bm (K := K) <| pe_bm PySem.F.plainAttrs_list PySem.F.slot_list_extend PySem.F.type_list_extend mt_extend (pv 6) (pa_cons (ce_call (ok_way_to (P := P) (w := w) T) (hr.mono (by decide)) rfl T.g_way_to (pa_cons (pv 0) (pa_cons (pv 3) (pa_cons (pe_slice (kx_sl (K := K)) (pv 10) po_none (po_some (pe_op op_sub (pe_callB (cl_len (K := K)) rfl T.b_len boot_len (pa_cons (pv 10) pa_nil)) (pe_callB (cl_len (K := K)) rfl T.b_len boot_len (pa_cons (pv 9) pa_nil))))) (pa_cons (pv 8) pa_nil))))) pa_nil)))) pss_nil))))
      (pss_one (ps_ret (pv 6))))))), ?_⟩
  obtain ⟨x0, x1, x2, rfl, h⟩ := h
  obtain ⟨p, a, b, s, as, hp, ⟨sa, r, rfl, hsa, hi⟩, hnt, ok, hab, hz, hnz, q⟩ := h
  have n4 := hp.ge.wf.n4
  have m3 := hp.ge.wf.m3
  obtain ⟨ra, rfl, hra⟩ := id hi
  obtain ⟨pa, pdx, pfs, rfl, hpa⟩ := hp.at_
  have sl := ok.l
  have hs : ST H (.ref sa) s := ⟨sa, _, rfl, hsa, hi⟩
  obtain ⟨na, zs, rfl, hna, hzs⟩ := id hnt
  refine ⟨_, rfl, _, _, rfl, sqT hsa, rfl, _, _, rfl, _, _, rfl, rfl, ?_⟩
  refine ⟨_, rfl, by simp, fun e H1 he hS1 he1 => ⟨dN as, .tuple [], (hnt.kp (Kp.of hS1)).dp, .tup (sqT he1) .nil, (fl_tup (fl_map fl_dS as)).sh (by decide), (fl_tup (n := 0) (by simp)).sh (by decide), _, rfl, ?_⟩⟩
  rw [eqv_nilT]
  by_cases has : as = []
  · subst has
    refine iteT ⟨_, rfl, _, rfl, _, rfl, _, rfl, _, rfl, _, _, rfl, p, s, a + b, hp.kpS hS1, hs.kp (Kp.of hS1), ok, fun v H2 r2 hS2 hv hasc hne hmem => ?_⟩
    obtain ⟨vb, rfl, hvb⟩ := hv
    have hS12 := hS1.trans hS2
    have rl := Asc_len hasc
    refine ⟨vb, _, rfl, sqT hvb, by simp; omega, by simp, fun k acc _ => acc = ((r2.take k).filter fun x => decide (x ∈ p.bad)).map V.int, by simp, fun _ _ _ _ _ z => z, fun k x H3 acc hx hR hS3 => ?_, fun D acc H3 hD hS3 hd3 hR => ?_⟩
    · obtain ⟨y, hy, rfl⟩ := ints_at hx
      have hR : acc = _ := hR
      have ek := take_succ' hy
      refine mTT.mk ⟨_, rfl, _, rfl, pa, _, pdx, pfs, rfl, rfl, (hS12.trans hS3) _ _ hpa, _, rfl, p, hp.kpS (hS12.trans hS3), fun bv hbv => ?_⟩
      obtain ⟨bb, rfl, hbb⟩ := hbv
      refine ⟨bb, _, rfl, .inr (sqT hbb), rfl, flat_ints _, _, rfl, ?_⟩
      show if (if false = true then _ else inV (.int y) (p.bad.map V.int)) = true then _ else _
      rw [if_neg (show ¬ (false = true) by decide), inV_ints]
      by_cases hin : y ∈ p.bad
      · rw [decide_eq_true hin]
        refine iteT (mTE.mk ⟨_, rfl, fun _ _ e => e, ?_⟩)
        dsimp only
        rw [hR, ek]
        simp [hin]
      · rw [decide_eq_false hin]
        refine iteF ⟨fun _ _ e => e, ?_⟩
        dsimp only
        rw [hR, ek]
        simp [hin]
    · have hR : acc = _ := hR
      rw [List.take_of_length_le (by simp)] at hR
      obtain ⟨y, hy1, hy2⟩ : ∃ y, LH.stand p.mv s y ∧ y ∈ p.bad := Classical.byContradiction fun hno => hz rfl fun x hx hb => hno ⟨x, hx, hb⟩
      have ymem : y ∈ r2.filter fun x => decide (x ∈ p.bad) := List.mem_filter.mpr ⟨(hmem y).mpr hy1, decide_eq_true hy2⟩
      obtain ⟨b0, br, hbr⟩ : ∃ b0 br, (r2.filter fun x => decide (x ∈ p.bad)) = b0 :: br := by
        cases h : r2.filter fun x => decide (x ∈ p.bad) with
        | nil => rw [h] at ymem; exact nomatch ymem
        | cons b0 br => exact ⟨b0, br, rfl⟩
      have bmem : b0 ∈ r2.filter fun x => decide (x ∈ p.bad) := by rw [hbr]; simp
      obtain ⟨bl, be⟩ := List.mem_filter.mp bmem
      have be := of_decide_eq_true be
      rw [hbr] at hR
      subst hR
      have hS13 := hS12.trans hS3
      refine ⟨D, _, 0, .int b0, rfl, rfl, sqL hd3, at0, ?_⟩
      refine ⟨_, _, _, _, rfl, p, s.1, b0, s.2, hp.kpS hS13, rfl, ok.a, ok.b, hi.kp (Kp.of hS13), ok.r, by omega, rfl, (hmem b0).mp bl, fun F H4 xs ts hS4 hF hF4 hts htl hok hall => ?_⟩
      exact q F H4 xs ts (hS13.trans hS4) (none_back hS13 hF) hF4 hts (by omega) hok fun mv' ha => ⟨fun _ hc => hc b0 (hall mv' ha) be, fun k t h => nomatch h⟩
  have hne : (as.map dS).isEmpty = false := by
    cases as with
    | nil => exact (has rfl).elim
    | cons _ _ => rfl
  rw [hne]
  obtain ⟨alen, anx⟩ := hnz has
  have zl := hzs.1
  refine iteF ⟨by simp, fun F H2 hF hS2 hF2 => ?_⟩
  have hS12 := hS1.trans hS2
  have hF0 := none_back hS1 hF
  refine ⟨_, rfl, na, zs, rfl, sqT (hS12 _ _ hna), for_enumT (xs := zs) (fun k σ H3 => ∃ z7 z8 z9 z10, σ = [some (.ref pa), some (.ref sa), some (.ref na), some (.int s.1), some (.ref ra), none, some (.ref F), z7, z8, z9, z10] ∧ Same H H3 ∧ ∃ fv ts, H3 F = some (.lst fv) ∧ All2 (TR H3) fv ts ∧ ts.length ≤ 3 * k ∧ OkTs p ts ∧ ∀ mv', All mv' ts → ∀ (j : Nat) (t : Sit), j < k → as[j]? = some t → LH.Next mv' a b s j t)
    ⟨none, none, none, none, rfl, hS12, [], [], hF2, .nil, by simp, (fun t h => nomatch h), fun mv' _ j t hj => absurd hj (Nat.not_lt_zero _)⟩ (fun k σ H3 ⟨_, _, _, _, _, z, _⟩ => sqT (z _ _ hna)) (fun k x T_ σ H3 H4 hx ⟨z7, z8, z9, z10, hσ, hS3, fv, ts, hf3, hts, htl, hok, hall⟩ hT hS4 hT4 => ?_) fun σ H3 ⟨z7, z8, z9, z10, hσ, hS3, fv, ts, hf3, hts, htl, hok, hall⟩ => ?_⟩
  · subst hσ
    obtain ⟨t, ht, ta, tr, rfl, hta, hti⟩ := hzs.get hx
    have hS34 := hS3.trans hS4
    have kk : k < p.m := by
      have := (List.getElem?_eq_some_iff.mp ht).1
      omega
    have hnx := anx k t ht
    refine ⟨T_, _, rfl, sqT hT4, rfl, _, _, rfl, _, _, rfl, ta, _, rfl, sqT (hS34 _ _ hta), rfl, _, _, rfl, _, _, rfl, rfl, rfl, ?_⟩
    have hra4 := hS34 _ _ hra
    refine ⟨_, rfl, ra, _, rfl, .inl (sqT hra4), _, rfl, by simp; omega, fun lg H5 hlg hS5 hlg5 => ?_⟩
    have hS35 := hS34.trans hS5
    have hlg6 : IT H5 (.ref lg) (s.2 ++ [(k : Int)]) := ⟨lg, rfl, by rw [hlg5]; simp⟩
    have hti5 : IT H5 tr t.2 := hti.kp (Kp.of hS35)
    refine ⟨_, rfl, _, rfl, by simp, fun e1 H6 he1 hS6 he16 => ⟨_, rfl, _, rfl, by simp, fun e2 H7 he2 hS7 he27 => ?_⟩⟩
    have hS37 := hS35.trans (hS6.trans hS7)
    have st1 : ST H7 (.ref e1) t := ⟨e1, _, rfl, hS7 _ _ he16, hti5.kp (Kp.of (hS6.trans hS7))⟩
    have st2 : ST H7 (.ref e2) (s.1, s.2 ++ [(k : Int)]) := ⟨e2, _, rfl, he27, hlg6.kp (Kp.of (hS6.trans hS7))⟩
    refine ⟨dS t, dS (s.1, s.2 ++ [(k : Int)]), st1.dp, st2.dp, (fl_dS _).sh (by decide), (fl_dS _).sh (by decide), _, rfl, ?_⟩
    have hf7 := (hS4.trans (hS5.trans (hS6.trans hS7))) _ _ hf3
    have hts7 : All2 (TR H7) fv ts := hts.mono fun _ _ z => z.kp (Kp.of (hS4.trans (hS5.trans (hS6.trans hS7))))
    have tsl := hts.1
    by_cases heq : t = (s.1, s.2 ++ [(k : Int)])
    · rw [(eqv_dS _ _).mpr heq]
      refine iteF ⟨_, _, _, _, rfl, hS37, fv, ts, hf7, hts7, by omega, hok, fun mv' ha j u hj hu => ?_⟩
      by_cases ej : j = k
      · subst ej
        rw [ht] at hu
        cases hu
        rcases hnx with z | ⟨z1, ⟨y, _, z2⟩ | z2⟩
        · exact .inl z
        · exfalso
          have := congrArg (fun u : Sit => u.2.length) (heq.symm.trans z2)
          simp only [List.length_drop] at this
          omega
        · exact .inr ⟨z1, .inr z2⟩
      · exact hall mv' ha j u (by omega) hu
    · have hev : PyData.eqv (dS t) (dS (s.1, s.2 ++ [(k : Int)])) = false := Bool.eq_false_iff.mpr fun z => heq ((eqv_dS _ _).mp z)
      rw [hev]
      obtain ⟨z1, y, hy, ety⟩ : a < (s.2 ++ [(k : Int)]).length ∧ ∃ y, LH.aft p.mv (fun x => x = s.1) ((s.2 ++ [(k : Int)]).take ((s.2 ++ [(k : Int)]).length - a)) y ∧ t = (y, (s.2 ++ [(k : Int)]).drop ((s.2 ++ [(k : Int)]).length - a)) := by
        rcases hnx with z | ⟨z1, z2 | z2⟩
        · exact (heq z.2).elim
        · exact ⟨z1, z2⟩
        · exact (heq z2.2).elim
      have t1 : t.1 = y := by rw [ety]
      have t2 : t.2.length = a := by
        rw [ety]
        show ((s.2 ++ [(k : Int)]).drop _).length = a
        rw [List.length_drop]
        omega
      generalize hlr : s.2 ++ [(k : Int)] = lr at *
      have lrl : lr.length = s.2.length + 1 := by rw [← hlr]; simp
      have hlg7 := hlg6.kp (Kp.of (hS6.trans hS7))
      obtain ⟨lg', elg, hlg8⟩ := hlg7
      cases elg
      obtain ⟨tb, rfl, htb⟩ := hti5.kp (Kp.of (hS6.trans hS7))
      have ecut : ((lr.length : Int) - t.2.length).toNat = lr.length - a := by omega
      refine iteT ⟨_, rfl, .inl ⟨rfl, _, sqL hf7⟩, _, rfl, _, rfl, _, rfl, _, rfl, _, lr.length, rfl, .inr ⟨_, sqT hlg8, by simp⟩, _, rfl, _, t.2.length, rfl, .inr ⟨_, sqT htb, by simp⟩, _, _, rfl, rfl, _, rfl, lg, _, rfl, hlg8, fun c H8 hS8 hc8 => ⟨_, rfl, ?_⟩⟩
      have hc9 : IT H8 (.ref c) (lr.take (lr.length - a)) := by
        refine ⟨c, rfl, ?_⟩
        rw [hc8, cut_take (by omega) (by rw [List.length_map]; omega), ecut, List.map_take]
      have lrok : ∀ o ∈ lr, 0 ≤ o ∧ o < p.m := fun o ho => by
        rw [← hlr] at ho
        rcases List.mem_append.mp ho with w | w
        · exact ok.r o w
        · rw [List.mem_singleton.mp w]
          omega
      have hS38 := hS37.trans hS8
      refine ⟨_, _, _, _, rfl, p, s.1, t.1, lr.take (lr.length - a), hp.kpS hS38, rfl, ok.a, ok.b, hc9, fun o ho => lrok o (List.mem_of_mem_take ho), by rw [List.length_take]; omega, rfl, by rw [t1]; exact hy, fun G H9 gv us hS9 hG hG9 hus hul hokG hallG => ?_⟩
      have hf9 := (hS8.trans hS9) _ _ hf7
      have ul3 : us.length ≤ 3 := by rw [hul, List.length_take]; omega
      have gl := hus.1
      have kp10 : Kp H9 (upd H9 F (.lst (fv ++ gv))) := Kp.lst hf9
      refine ⟨F, G, fv, gv, rfl, rfl, hf9, hG9, line1000 (by omega), _, _, _, _, rfl, same_put (hS38.trans hS9) hF0, fv ++ gv, ts ++ us, upd_same, (hts7.mono fun _ _ z => z.kp ((Kp.of (hS8.trans hS9)).trans kp10)).append (hus.mono fun _ _ z => z.kp kp10), by rw [List.length_append]; omega, hok.append hokG, fun mv' ha j u hj hu => ?_⟩
      by_cases ej : j = k
      · subst ej
        rw [ht] at hu
        cases hu
        refine .inr ⟨by rw [hlr]; exact z1, .inl ⟨y, ?_, by rw [hlr]; exact ety⟩⟩
        rw [hlr, ← t1]
        exact hallG mv' fun u hu => ha u (List.mem_append_right _ hu)
      · exact hall mv' (fun u hu => ha u (List.mem_append_left _ hu)) j u (by omega) hu
  · subst hσ
    refine ⟨_, rfl, q F H3 fv ts hS3 hF0 hf3 hts (by omega) hok fun mv' ha => ⟨fun z => (has z).elim, fun k t hk => hall mv' ha k t ?_ hk⟩⟩
    have := (List.getElem?_eq_some_iff.mp hk).1
    omega
end Lh
set_option Elab.async false
set_option linter.all false
set_option maxRecDepth 100000
set_option maxHeartbeats 4000000
/-! The helpful answers. -/
namespace Lh
open PySem PySem.Spec PyProof.Rows L2
/-- as long as the used answers stand, the situation is lost -/
theorem prf_lost {p : Pd} {a b : Nat} {trs : List Tre} {s : Sit} (P : Prf p a b trs s) {mv' : Mv} (h : ∀ tr ∈ trs, Holds p a b tr.1 tr.2.2 mv') : ¬ LH.Kept mv' p.bad p.m a b s := by
  have key : ∀ (n : Nat) (tr : Tre), tr ∈ trs → tr.2.1 = n → ¬ LH.Kept mv' p.bad p.m a b tr.1 := by
    intro n
    induction n using Nat.strongRecOn with
    | ind n ih =>
      intro tr ht hn hk
      obtain ⟨h1, h2⟩ := h tr ht
      by_cases h0 : tr.2.1 = 0
      · exact h1 (P.z tr ht h0).2 hk.clear
      · obtain ⟨o, o0, o1, ho⟩ := hk.step
        obtain ⟨q1, q2⟩ := P.nz tr ht (by omega)
        have hl : o.toNat < tr.2.2.length := by omega
        have e := List.getElem?_eq_getElem hl
        obtain ⟨_, tr', w1, w2, w3⟩ := q2 _ _ e
        have hx := h2 _ _ e
        rw [Int.toNat_of_nonneg o0] at hx
        have := ih tr'.2.1 (by omega) tr' w1 rfl
        rw [w2] at this
        exact this (ho _ hx)
  obtain ⟨tr, ht, e⟩ := P.has
  rw [← e]
  exact key _ tr ht rfl
/-- an answer that can be barred -/
structure CanP (p : Pd) (t : Tri) : Prop where
  i : InR p t
  m : t.2.2 ∈ LH.ans p.mv t.1 t.2.1
  l : 1 < (LH.ans p.mv t.1 t.2.1).length
/-- whoever keeps it has barred one of these -/
def Hits (p : Pd) (a b : Nat) (s : Sit) (fs : List Tri) : Prop := ∀ mv' : Mv, LH.Sub mv' p.mv → (∀ i o, LH.ans p.mv i o ≠ [] → LH.ans mv' i o ≠ []) → LH.Kept mv' p.bad p.m a b s → ∃ t ∈ fs, t.2.2 ∉ LH.ans mv' t.1 t.2.1
theorem hits_of {p : Pd} {a b : Nat} {trs : List Tre} {s : Sit} {ts fs : List Tri} (P : Prf p a b trs s) (ok : OkTs p ts) (h : ∀ mv', All mv' ts → ∀ tr ∈ trs, Holds p a b tr.1 tr.2.2 mv') (hf : ∀ t, t ∈ fs ↔ t ∈ ts ∧ 1 < (LH.ans p.mv t.1 t.2.1).length) : Hits p a b s fs := by
  intro mv' hsub hne hk
  refine Classical.byContradiction fun hno => ?_
  refine prf_lost P (h mv' fun t ht => Classical.byContradiction fun hnt => ?_) hk
  by_cases hl : 1 < (LH.ans p.mv t.1 t.2.1).length
  · exact hno ⟨t, (hf t).mpr ⟨ht, hl⟩, hnt⟩
  · have hm := (ok t ht).2
    have hn1 := hne t.1 t.2.1 (fun z => by rw [z] at hm; exact nomatch hm)
    obtain ⟨x, hx⟩ := List.exists_mem_of_ne_nil _ hn1
    have hx2 := hsub _ _ _ hx
    match hL : LH.ans p.mv t.1 t.2.1, hl, hm, hx2 with
    | [y], _, hm, hx2 =>
      rw [List.mem_singleton] at hm hx2
      rw [hm, ← hx2] at hnt
      exact hnt hx
    | y :: z :: r, hl, _, _ => simp at hl
def tl (t : Tri) : List Int := [t.1, t.2.1, t.2.2]
theorem tl_inj {t u : Tri} (h : tl t = tl u) : t = u := by
  obtain ⟨a, b, c⟩ := t
  obtain ⟨d, e, f⟩ := u
  unfold tl at h
  injection h with h1 h
  injection h with h2 h
  injection h with h3 h
  simp only at h1 h2 h3
  rw [h1, h2, h3]
theorem flat_lenG {α β : Type} {n : Nat} {f : α → List β} : ∀ {l : List α}, (∀ y ∈ l, (f y).length ≤ n) → (l.flatMap f).length ≤ n * l.length
  | [], _ => by simp
  | y :: l, h => by
    have a := h y (List.mem_cons_self ..)
    have b := flat_lenG fun z m => h z (List.mem_cons_of_mem _ m)
    rw [List.flatMap_cons, List.length_append, List.length_cons, Nat.mul_succ]
    omega
def triU (n m : Nat) : List (List Int) := (List.range n).flatMap fun (i : Nat) => (List.range m).flatMap fun (o : Nat) => (List.range n).map fun (x : Nat) => [(i : Int), (o : Int), (x : Int)]
theorem triU_len {n m : Nat} (hn : n ≤ 4) (hm : m ≤ 3) : (triU n m).length ≤ 48 := by
  have h1 : ∀ i : Nat, ((List.range m).flatMap fun (o : Nat) => (List.range n).map fun (x : Nat) => [(i : Int), (o : Int), (x : Int)]).length ≤ 12 := fun i => by
    have := flat_lenG (n := 4) (f := fun (o : Nat) => (List.range n).map fun (x : Nat) => [(i : Int), (o : Int), (x : Int)]) (l := List.range m) fun o _ => by
      rw [List.length_map, List.length_range]
      exact hn
    rw [List.length_range] at this
    omega
  have := flat_lenG (n := 12) (f := fun (i : Nat) => (List.range m).flatMap fun (o : Nat) => (List.range n).map fun (x : Nat) => [(i : Int), (o : Int), (x : Int)]) (l := List.range n) fun i _ => h1 i
  rw [List.length_range] at this
  unfold triU
  omega
theorem mem_triU {p : Pd} {t : Tri} (h : InR p t) : tl t ∈ triU p.mv.length p.m := by
  refine List.mem_flatMap.mpr ⟨t.1.toNat, List.mem_range.mpr (by have := h.a0; have := h.a1; omega), List.mem_flatMap.mpr ⟨t.2.1.toNat, List.mem_range.mpr (by have := h.b0; have := h.b1; omega), List.mem_map.mpr ⟨t.2.2.toNat, List.mem_range.mpr (by have := h.c0; have := h.c1; omega), ?_⟩⟩⟩
  rw [Int.toNat_of_nonneg h.a0, Int.toNat_of_nonneg h.b0, Int.toNat_of_nonneg h.c0]
  rfl
theorem keys_of {H : Hp} : ∀ {xs : List V} {us : List Tri}, All2 (TR H) xs us → ∃ ks : List (Addr × List Int), xs = ks.map (fun q => V.ref q.1) ∧ ks.map (·.2) = us.map tl ∧ ∀ q ∈ ks, H q.1 = some (.tup (q.2.map V.int))
  | [], us, h => by
    have := h.1
    have : us = [] := List.length_eq_zero_iff.mp (by simpa using this.symm)
    subst this
    exact ⟨[], rfl, rfl, fun q h => nomatch h⟩
  | x :: xs, us, h => by
    obtain ⟨t, r, rfl, ⟨c, rfl, hc⟩, h2⟩ := h.cons_inv'
    obtain ⟨ks, e1, e2, e3⟩ := keys_of h2
    refine ⟨(c, tl t) :: ks, by rw [e1]; rfl, by rw [List.map_cons, List.map_cons, e2], fun q hq => ?_⟩
    rcases List.mem_cons.mp hq with z | z
    · rw [z]
      exact hc
    · exact e3 q z
def sp_helpful (K : PySem.W.Frag) : Sp := fun vs H Q _ => ∃ x0 x1 x2, vs = [x0, x1, x2] ∧ ∃ (p : Pd) (a b : Nat) (s : Sit), PL K H x0 p ∧ NW K H x1 a b ∧ ST H x2 s ∧ SitOk p (a + b) s ∧ ¬ KeptP p a b s ∧
  ∀ F H' xs fs, Same H H' → H F = none → H' F = some (.lst xs) → All2 (TR H') xs fs → fs.length ≤ 64 → (∀ t ∈ fs, CanP p t) → Hits p a b s fs → Q (.ref F) H'
theorem ok_helpful {P : Program} {w : World} {K : PySem.W.Frag} {mg : Str → Option Value} {base : Heap} (T : Tx K mg) : Fn P w K mg base 9 (He.ga K "helpful") (sp_helpful K) := by
  obtain ⟨fd, F⟩ := T.d_helpful
  have hb : Binds K fd ["plant", "news", "situation"] [] := F.bindsN fun _ _ _ _ _ _ us hl => match us, hl with | [_, _, _], _ => rfl
  refine fn_def F sc_helpful hb (fun vs H Q E h => by obtain ⟨_, _, _, rfl, _⟩ := h; rfl) fun cdv A outer s H vs Q E hr h => ⟨_, PSs.nox (pss_cons (ps_set (i := 3) sc_helpful.nd rfl (by first | exact Or.inl rfl | exact Or.inr rfl) (ce_lst pa_nil))
      (pss_cons (ps_for PassesOwn.never rfl (pi_tup (pe_ix (kx_ix_tup (K := K)) (ce_call (ok_verdict (P := P) (w := w) T) (hr.mono (by decide)) rfl T.g_verdict (pa_cons (pv 0) (pa_cons (pv 1) (pa_cons (pv 2) pa_nil)))) pe_int (fun _ _ => rfl))) (pg_tup rfl (pgs_cons (pg_name (i := 4) sc_helpful.nd rfl (by first | exact Or.inl rfl | exact Or.inr rfl)) (pgs_cons (pg_name (i := 5) sc_helpful.nd rfl (by first | exact Or.inl rfl | exact Or.inr rfl)) (pgs_cons (pg_name (i := 6) sc_helpful.nd rfl (by first | exact Or.inl rfl | exact Or.inr rfl)) pgs_nil)))) (pss_one (ps_expr (kx_bm (K := K) <| pe_bm PySem.F.plainAttrs_list PySem.F.slot_list_extend PySem.F.type_list_extend mt_extend (pv 3) (pa_cons (ce_call (ok_used_in (P := P) (w := w) T) (hr.mono (by decide)) rfl T.g_used_in (pa_cons (pv 0) (pa_cons (pv 4) (pa_cons (pv 6) pa_nil)))) pa_nil)))))
      (pss_one (ps_ret (pe_callB (cr_sortedT rfl) rfl T.b_sorted boot_sorted (pa_cons (pe_callTy (cr_setF rfl hr.units) rfl T.b_set boot_set (pa_cons (kx_lc (K := K) (ce_lc .l rfl sc_helpful.nd (pv 3) (blkOk_by (own := [("one", 4)]) (N := n_helpful) (sc := defScope s_helpful) (by decide +kernel)) (fun _ _ _ _ _ => pg_name (i := 4) sc_helpful.nd rfl (Or.inl rfl)) (fun _ _ _ _ _ => (pts_one (pt_cmpR op_gt (pe_callB (cl_len (K := K)) rfl T.b_len boot_len (pa_cons (pe_ix (kx_ix_tup (K := K)) (pe_ix (kx_ix_tup (K := K)) (ce_prop (pv 0) T.pl_moves (ok_Plant_moves T).run (hr.mono (by decide))) (pe_ix (kx_ix_tup (K := K)) (pv 4) pe_int (fun _ _ => rfl)) (fun _ _ => rfl)) (pe_ix (kx_ix_tup (K := K)) (pv 4) pe_int (fun _ _ => rfl)) (fun _ _ => rfl)) pa_nil)) pe_int (nomark _)))) (fun _ _ _ _ _ => (pv 4)))) pa_nil)) pa_nil)))))), ?_⟩
  obtain ⟨x0, x1, x2, rfl, h⟩ := h
  obtain ⟨p, a, b, s, hp, hn, hs, ok, hnk, q⟩ := h
  have n4 := hp.ge.wf.n4
  have m3 := hp.ge.wf.m3
  have hab := hn.1
  obtain ⟨pa, pdx, pfs, rfl, hpa⟩ := hp.at_
  refine ⟨by simp, fun F H1 hF hS1 hF1 => ?_⟩
  have k1 := Kp.of hS1
  refine ⟨_, rfl, _, rfl, _, rfl, _, _, _, rfl, p, a, b, s, hp.kpS hS1, hn.kp k1, hs.kp k1, ok, hnk, fun t x y H2 trs hS2 ht hy prf => ?_⟩
  obtain ⟨c, zs, rfl, hc, hz⟩ := hy
  have hS12 := hS1.trans hS2
  have zl := hz.1
  have tl52 := prf.len
  refine ⟨t, _, 1, _, rfl, rfl, sqT ht, at1, c, rfl, ⟨zs, sqT hc⟩, for_tup (xs := zs) (fun k σ H3 => ∃ z4 z5 z6, σ = [some (.ref pa), some x1, some x2, some (.ref F), z4, z5, z6] ∧ Same H H3 ∧ Kp H2 H3 ∧ ∃ fv ts, H3 F = some (.lst fv) ∧ All2 (TR H3) fv ts ∧ ts.length ≤ 9 * k ∧ OkTs p ts ∧ ∀ mv', All mv' ts → ∀ (j : Nat) (tr : Tre), j < k → trs[j]? = some tr → Holds p a b tr.1 tr.2.2 mv')
    ⟨none, none, none, rfl, hS12, Kp.refl _, [], [], hS2 _ _ hF1, .nil, by simp, (fun t h => nomatch h), fun mv' _ j t hj => absurd hj (Nat.not_lt_zero _)⟩ (fun k σ H3 _ ⟨_, _, _, _, _, z, _⟩ => sqT (z _ _ hc True.intro)) (fun k x σ H3 hx ⟨z4, z5, z6, hσ, hS3, hk3, fv, ts, hf3, hts, htl, hok, hall⟩ => ?_) fun σ H3 ⟨z4, z5, z6, hσ, hS3, hk3, fv, ts, hf3, hts, htl, hok, hall⟩ => ?_⟩
  · subst hσ
    obtain ⟨tr, htr, htt⟩ := hz.get hx
    obtain ⟨ta, tx, ty, rfl, hta, hst, hnt⟩ := htt.kp hk3
    have trm := List.mem_of_getElem? htr
    have kk : k < 52 := by
      have := (List.getElem?_eq_some_iff.mp htr).1
      omega
    refine ⟨ta, _, rfl, sqT hta, rfl, _, _, rfl, _, _, rfl, _, _, rfl, rfl, ?_⟩
    refine ⟨_, rfl, .inl ⟨rfl, _, sqL hf3⟩, _, rfl, _, rfl, _, rfl, _, _, _, rfl, p, a, b, tr.1, tr.2.2, hp.kpS hS3, hst, hnt, prf.ok tr trm, hab, fun z => ?_, fun z => ?_, fun G H4 gv us hS4 hG hG4 hus hul hokG hallG => ?_⟩
    · by_cases h0 : tr.2.1 = 0
      · exact (prf.z tr trm h0).1
      · have := (prf.nz tr trm (by omega)).1
        have m1 := hp.ge.wf.m1
        rw [z] at this
        simp at this
        omega
    · have h0 : 0 < tr.2.1 := Nat.pos_of_ne_zero fun h0 => z (prf.z tr trm h0).2
      exact ⟨(prf.nz tr trm h0).1, fun k t hk => ((prf.nz tr trm h0).2 k t hk).1⟩
    · have hf4 := hS4 _ _ hf3
      have fl := hts.1
      have gl := hus.1
      have kp5 : Kp H4 (upd H4 F (.lst (fv ++ gv))) := Kp.lst hf4
      refine ⟨F, G, fv, gv, rfl, rfl, hf4, hG4, line1000 (by omega), _, _, _, rfl, same_put (hS3.trans hS4) hF, hk3.trans ((Kp.of hS4).trans kp5), fv ++ gv, ts ++ us, upd_same, (hts.mono fun _ _ z => z.kp ((Kp.of hS4).trans kp5)).append (hus.mono fun _ _ z => z.kp kp5), by rw [List.length_append]; omega, hok.append hokG, fun mv' ha j u hj hu => ?_⟩
      by_cases ej : j = k
      · subst ej
        rw [htr] at hu
        cases hu
        exact hallG mv' fun u hu => ha u (List.mem_append_right _ hu)
      · exact hall mv' (fun u hu => ha u (List.mem_append_left _ hu)) j u (by omega) hu
  subst hσ
  have fl := hts.1
  rw [zl] at htl hall
  refine ⟨_, rfl, F, fv, rfl, sqL hf3, by omega, by simp, fun k acc H4 => ∃ us, All2 (TR H4) acc us ∧ us = (ts.take k).filter fun t => decide (1 < (LH.ans p.mv t.1 t.2.1).length), ⟨[], .nil, by simp⟩, fun k acc H4 H5 kp ⟨us, h1, h2⟩ => ⟨us, h1.mono fun _ _ z => z.kp kp, h2⟩, fun k x H4 acc hx ⟨us, hus, eus⟩ hS4 => ?_, fun D acc H4 hD hS4 hd4 ⟨us, hus, eus⟩ => ?_⟩
  · obtain ⟨t, ht, htr⟩ := hts.get hx
    have ek := take_succ' ht
    have inr := (hok t (List.mem_of_getElem? ht)).1
    have htr4 := htr.kp (Kp.of hS4)
    obtain ⟨tb, rfl, htb⟩ := id htr4
    have hS34 := hS3.trans hS4
    refine mTT.mk ⟨_, rfl, pa, _, pdx, pfs, rfl, rfl, hS34 _ _ hpa, _, rfl, p, hp.kpS hS34, fun mvv hm => ⟨_, rfl, ?_⟩⟩
    obtain ⟨a1, ys, rowv, r, rfl, f1, f2, f3, f4⟩ := hm.row inr.a0 inr.a1
    obtain ⟨a2, ws, cv, l, rfl, g1, g2, g3, g4⟩ := f4.cell inr.b0 (by rw [hp.ge.wf.len f3]; exact inr.b1)
    have el := ans_of f3 g3
    obtain ⟨cc, rfl, hcc⟩ := g4
    refine ⟨_, _, _, _, rfl, rfl, sqT htb, at0, a1, ys, t.1, _, rfl, rfl, sqT f1, f2, _, rfl, _, _, _, _, rfl, rfl, sqT htb, at1, a2, ws, t.2.1, _, rfl, rfl, sqT g1, g2, _, l.length, rfl, .inr ⟨_, sqT hcc, by simp⟩, (l.length : Int), 1, rfl, rfl, _, rfl, ?_⟩
    by_cases hl : 1 < (LH.ans p.mv t.1 t.2.1).length
    · rw [decide_eq_true (show (1 : Int) < l.length by rw [← el]; omega)]
      refine iteT (mTE.mk ⟨_, rfl, fun _ _ e => e, us ++ [t], hus.snoc htr4, ?_⟩)
      rw [eus, ek]
      simp [hl]
    · rw [decide_eq_false (show ¬ (1 : Int) < l.length by rw [← el]; omega)]
      refine iteF ⟨fun _ _ e => e, us, hus, ?_⟩
      rw [eus, ek]
      simp [hl]
  rw [List.take_of_length_le (by omega)] at eus
  obtain ⟨ks, e1, e2, e3⟩ := keys_of hus
  have usmem : ∀ t, t ∈ us ↔ t ∈ ts ∧ 1 < (LH.ans p.mv t.1 t.2.1).length := fun t => by
    rw [eus, List.mem_filter, decide_eq_true_iff]
  have kin : ∀ q ∈ ks, ∃ t ∈ us, q.2 = tl t := fun q hq => by
    have : q.2 ∈ ks.map (·.2) := List.mem_map.mpr ⟨q, hq, rfl⟩
    rw [e2] at this
    obtain ⟨t, ht, e⟩ := List.mem_map.mp this
    exact ⟨t, ht, e.symm⟩
  refine ⟨D, ks, rfl, by rw [← e1]; exact sqL hd4, fun q hq => sqT (e3 q hq), fun W nd hW => ?_, fun sa L H5 hsa hS5 hL1 hL2 hset => ?_⟩
  · have := nodup_len (D := W) (U := triU p.mv.length p.m) nd fun k hk => by
      have := hW k hk
      rw [e2] at this
      obtain ⟨t, ht, e⟩ := List.mem_map.mp this
      rw [← e]
      exact mem_triU (hok t ((usmem t).mp ht).1).1
    have := triU_len n4 m3
    omega
  have hLk : ∀ q ∈ L, ∃ t ∈ us, q.2 = tl t := fun q hq => kin q (hL1 q hq)
  refine ⟨sa, L, 3, 64, rfl, hset, fun q hq => sqT (hS5 _ _ (e3 q (hL1 q hq))), by decide, fun q hq => ?_, fun L' pl pm nd l64 _ hpl => ?_⟩
  · obtain ⟨t, ht, e⟩ := hLk q hq
    have inr := (hok t ((usmem t).mp ht).1).1
    have := inr.a1
    have := inr.b1
    have := inr.c1
    rw [e]
    refine ⟨rfl, fun x hx => ?_⟩
    have a0 := inr.a0
    have b0 := inr.b0
    have c0 := inr.c0
    rcases List.mem_cons.mp hx with z | z
    · rw [z]; omega
    · rcases List.mem_cons.mp z with z | z
      · rw [z]; omega
      · rw [List.mem_singleton.mp z]; omega
  have hS6 : Same H5 (upd H5 pl (.lst (L'.map fun q => V.ref q.1))) := same_new hpl
  have ch : ∀ q ∈ L', ∃ t : Tri, t ∈ us ∧ q.2 = tl t ∧ TR (upd H5 pl (.lst (L'.map fun q => V.ref q.1))) (.ref q.1) t := fun q hq => by
    obtain ⟨t, ht, e⟩ := hLk q (pm.mem_iff.mp hq)
    refine ⟨t, ht, e, q.1, rfl, hS6 _ _ (hS5 _ _ ?_)⟩
    have := e3 q (hL1 q (pm.mem_iff.mp hq))
    rw [e] at this
    exact this
  obtain ⟨fs, hfs⟩ := choice2 ch
  have fsmem : ∀ t, t ∈ fs ↔ t ∈ us := fun t => by
    refine ⟨fun h => ?_, fun h => ?_⟩
    · obtain ⟨q, _, h1, _⟩ := hfs.mem' h
      exact h1
    · have : tl t ∈ ks.map (·.2) := by rw [e2]; exact List.mem_map.mpr ⟨t, h, rfl⟩
      obtain ⟨q, hq, eq⟩ := List.mem_map.mp this
      have := hL2 q hq
      obtain ⟨q', hq', eq'⟩ := List.mem_map.mp this
      obtain ⟨t', h1, h2⟩ := hfs.mem (pm.mem_iff.mpr hq')
      have : tl t' = tl t := by rw [← h2.2.1, eq', eq]
      rw [← tl_inj this]
      exact h1
  refine q pl _ _ fs (hS3.trans (hS4.trans (hS5.trans hS6))) (none_back (hS3.trans (hS4.trans hS5)) hpl) upd_same (All2.mapl (hfs.mono fun _ _ z => z.2.2)) (by rw [← hfs.1]; omega) (fun t ht => ?_) (hits_of prf hok (fun mv' ha tr ht => ?_) fun t => by rw [fsmem t, usmem t])
  · obtain ⟨h1, h2⟩ := (usmem t).mp ((fsmem t).mp ht)
    exact ⟨(hok t h1).1, (hok t h1).2, h2⟩
  · obtain ⟨j, hj⟩ := List.mem_iff_getElem?.mp ht
    exact hall mv' ha j tr (List.getElem?_eq_some_iff.mp hj).1 hj
end Lh
set_option Elab.async false
set_option linter.all false
set_option maxRecDepth 100000
set_option maxHeartbeats 4000000
/-! Barring answers: the plain law. -/
namespace Lh
open PySem PySem.Spec PyProof.Rows L2
theorem ans_rem {p : Pd} (ok : p.Ok) {t : Tri} (r : InR p t) (i o : Int) : LH.ans (p.rem t).mv i o = if i.toNat = t.1.toNat ∧ o.toNat = t.2.1.toNat then (LH.ans p.mv t.1 t.2.1).filter (fun x => decide (x ≠ t.2.2)) else LH.ans p.mv i o := by
  have h1 : t.1.toNat < p.mv.length := by have := r.a0; have := r.a1; omega
  refine LH.ans_setAns p.mv t.1 t.2.1 _ i o h1 fun row h => ?_
  rw [ok.wf.len h]
  have := r.b0
  have := r.b1
  omega
theorem mem_rem {p : Pd} (ok : p.Ok) {t u : Tri} (r : InR p t) (r' : InR p u) : u.2.2 ∈ LH.ans (p.rem t).mv u.1 u.2.1 ↔ u.2.2 ∈ LH.ans p.mv u.1 u.2.1 ∧ u ≠ t := by
  rw [ans_rem ok r]
  have a0 := r.a0
  have b0 := r.b0
  have a0' := r'.a0
  have b0' := r'.b0
  by_cases h : u.1.toNat = t.1.toNat ∧ u.2.1.toNat = t.2.1.toNat
  · have e1 : u.1 = t.1 := by omega
    have e2 : u.2.1 = t.2.1 := by omega
    rw [if_pos h, e1, e2, List.mem_filter, decide_eq_true_iff]
    exact ⟨fun z => ⟨z.1, fun e => z.2 (by rw [e])⟩, fun z => ⟨z.1, fun e => z.2 (Prod.ext e1 (Prod.ext e2 e))⟩⟩
  · rw [if_neg h]
    exact ⟨fun z => ⟨z, fun e => h (by rw [e]; exact ⟨rfl, rfl⟩)⟩, fun z => z.1⟩
theorem sub_rem {p : Pd} (ok : p.Ok) {t : Tri} (r : InR p t) : LH.Sub (p.rem t).mv p.mv := fun i o x h => by
  rw [ans_rem ok r] at h
  by_cases c : i.toNat = t.1.toNat ∧ o.toNat = t.2.1.toNat
  · rw [if_pos c] at h
    have := (List.mem_filter.mp h).1
    unfold LH.ans at this ⊢
    rw [c.1, c.2]
    exact this
  · rwa [if_neg c] at h
/-- u is an answer of p -/
def Has (p : Pd) (u : Tri) : Prop := InR p u ∧ u.2.2 ∈ LH.ans p.mv u.1 u.2.1
theorem len_rem (p : Pd) (t : Tri) : (p.rem t).mv.length = p.mv.length := by
  show (p.mv.modify _ _).length = _
  simp
theorem inr_rem {p : Pd} {t u : Tri} : InR (p.rem t) u ↔ InR p u := by
  have e := len_rem p t
  exact ⟨fun h => ⟨h.a0, by have := h.a1; rw [e] at this; exact this, h.b0, h.b1, h.c0, by have := h.c1; rw [e] at this; exact this⟩, fun h => ⟨h.a0, by rw [e]; exact h.a1, h.b0, h.b1, h.c0, by rw [e]; exact h.c1⟩⟩
theorem has_rem {p : Pd} (ok : p.Ok) {t u : Tri} (r : InR p t) : Has (p.rem t) u ↔ Has p u ∧ u ≠ t := by
  unfold Has
  rw [inr_rem]
  exact ⟨fun ⟨h1, h2⟩ => let z := (mem_rem ok r h1).mp h2; ⟨⟨h1, z.1⟩, z.2⟩, fun ⟨⟨h1, h2⟩, h3⟩ => ⟨h1, (mem_rem ok r h1).mpr ⟨h2, h3⟩⟩⟩
theorem CanP.has {p : Pd} {t : Tri} (h : CanP p t) : Has p t := ⟨h.i, h.m⟩
theorem rem_ok {p : Pd} (ok : p.Ok) {t : Tri} (h : CanP p t) : (p.rem t).Ok := by
  have hi : t.1.toNat < p.mv.length := by have := h.i.a0; have := h.i.a1; omega
  have e := List.getElem?_eq_getElem hi
  have asc := (PL.ansOk ok h.i).2
  have len := len_rem p t
  have w : Wf (p.rem t).mv p.m := ok.wf.set (o := t.2.1) (l := (LH.ans p.mv t.1 t.2.1).filter fun x => decide (x ≠ t.2.2)) (fun z => by
    have := filter_len h.m h.l (asc.1.imp fun h => by omega)
    rw [z] at this
    exact absurd this (by simp)) ⟨asc.1.filter _, fun x hx => asc.2 x (List.mem_filter.mp hx).1⟩ e
  exact ⟨w, by rw [len]; exact ok.b, by rw [len]; exact ok.g, ok.d⟩
/-- every order in every place has an answer -/
theorem cell_ne {p : Pd} (ok : p.Ok) {u : Tri} (h : InR p u) : LH.ans p.mv u.1 u.2.1 ≠ [] := (PL.ansOk ok h).1
theorem ans_inr {p : Pd} (ok : p.Ok) {i o x : Int} (h : x ∈ LH.ans p.mv i o) : InR p ((i.toNat : Int), (o.toNat : Int), x) := by
  obtain ⟨row, h1, l, h2, h3⟩ := LH.ans_lt h
  have hx := ans_in ok h
  have l1 := (List.getElem?_eq_some_iff.mp h1).1
  have l2 := (List.getElem?_eq_some_iff.mp h2).1
  rw [ok.wf.len h1] at l2
  exact ⟨Int.natCast_nonneg _, Int.ofNat_lt.mpr l1, Int.natCast_nonneg _, Int.ofNat_lt.mpr l2, hx.1, hx.2⟩
theorem ans_nat (mv : Mv) (i o : Int) : LH.ans mv (i.toNat : Int) (o.toNat : Int) = LH.ans mv i o := by
  unfold LH.ans
  rw [Int.toNat_natCast, Int.toNat_natCast]
theorem sub_of {p q : Pd} (okp : p.Ok) (h : ∀ u, Has p u → Has q u) : LH.Sub p.mv q.mv := fun i o x hx => by
  have r := ans_inr okp hx
  have := (h _ ⟨r, by show x ∈ LH.ans p.mv _ _; rw [ans_nat]; exact hx⟩).2
  show x ∈ LH.ans q.mv i o
  rw [← ans_nat]
  exact this
theorem ne_of_sub {p q : Pd} (okp : p.Ok) (okq : q.Ok) (l : q.mv.length = p.mv.length) (m : q.m = p.m) : ∀ i o, LH.ans p.mv i o ≠ [] → LH.ans q.mv i o ≠ [] := fun i o h => by
  obtain ⟨x, hx⟩ := List.exists_mem_of_ne_nil _ h
  have r := ans_inr okp hx
  have := cell_ne okq (u := ((i.toNat : Int), (o.toNat : Int), x)) ⟨r.a0, by rw [l]; exact r.a1, r.b0, by rw [m]; exact r.b1, r.c0, by rw [l]; exact r.c1⟩
  rwa [show LH.ans q.mv ((i.toNat : Int), (o.toNat : Int), x).1 ((i.toNat : Int), (o.toNat : Int), x).2.1 = LH.ans q.mv i o from ans_nat _ _ _] at this
/-- two answers of one order -/
theorem two_len {l : List Int} {x y : Int} (hx : x ∈ l) (hy : y ∈ l) (h : x ≠ y) : 1 < l.length := by
  match l, hx, hy with
  | [z], hx, hy =>
    rw [List.mem_singleton] at hx hy
    exact (h (hx.trans hy.symm)).elim
  | a :: b :: r, _, _ => simp
/-- it can be barred, where a plant below lacks it -/
theorem can_of {p q : Pd} (okq : q.Ok) (l : q.mv.length = p.mv.length) (m : q.m = p.m) {u : Tri} (h : Has p u) (sub : ∀ v, Has q v → Has p v) (hn : ¬ Has q u) : CanP p u := by
  refine ⟨h.1, h.2, ?_⟩
  have rq : InR q u := ⟨h.1.a0, by rw [l]; exact h.1.a1, h.1.b0, by rw [m]; exact h.1.b1, h.1.c0, by rw [l]; exact h.1.c1⟩
  obtain ⟨x, hx⟩ := List.exists_mem_of_ne_nil _ (cell_ne okq rq)
  have hxr := ans_in okq hx
  have hv : Has q (u.1, u.2.1, x) := ⟨⟨rq.a0, rq.a1, rq.b0, rq.b1, hxr.1, hxr.2⟩, hx⟩
  have hp := (sub _ hv).2
  refine two_len hp h.2 fun e => hn ?_
  have e' : x = u.2.2 := e
  subst e'
  exact hv
abbrev NoSingle (p : Pd) (a b : Nat) (s : Sit) : Prop := ∀ t, CanP p t → ¬ KeptP (p.rem t) a b s
abbrev NoPair (p : Pd) (a b : Nat) (s : Sit) : Prop := ∀ x, CanP p x → ∀ y, CanP (p.rem x) y → ¬ KeptP ((p.rem x).rem y) a b s
theorem kept_mono {p q : Pd} {a b : Nat} {s : Sit} (okp : p.Ok) (h : ∀ u, Has p u → Has q u) (m : p.m = q.m) (bd : p.bad = q.bad) (k : KeptP q a b s) : KeptP p a b s := by
  unfold KeptP at k ⊢
  rw [m, bd]
  exact LH.Kept.mono (sub_of okp h) k
/-- who bars x and keeps it is found by what helps -/
theorem hit_one {p : Pd} {a b : Nat} {s : Sit} {fs : List Tri} (ok : p.Ok) (h : Hits p a b s fs) (hf : ∀ t ∈ fs, CanP p t) {x : Tri} (hx : CanP p x) (k : KeptP (p.rem x) a b s) : x ∈ fs := by
  obtain ⟨t, ht, hn⟩ := h _ (sub_rem ok hx.i) (ne_of_sub ok (rem_ok ok hx) (len_rem p x) rfl) k
  have := fun z => hn ((mem_rem ok hx.i (hf t ht).i).mpr z)
  have e : t = x := Classical.byContradiction fun z => this ⟨(hf t ht).m, z⟩
  rw [← e]
  exact ht
theorem hit_two {p : Pd} {a b : Nat} {s : Sit} {fs : List Tri} (ok : p.Ok) (h : Hits p a b s fs) (hf : ∀ t ∈ fs, CanP p t) {x y : Tri} (hx : CanP p x) (hy : CanP (p.rem x) y) (k : KeptP ((p.rem x).rem y) a b s) : x ∈ fs ∨ y ∈ fs := by
  have okx := rem_ok ok hx
  have oky := rem_ok okx hy
  obtain ⟨t, ht, hn⟩ := h _ (LH.Sub.trans (sub_rem okx hy.i) (sub_rem ok hx.i)) (ne_of_sub ok oky ((len_rem _ y).trans (len_rem p x)) rfl) k
  have ti := (hf t ht).i
  have h1 := fun z => hn ((mem_rem okx hy.i (inr_rem.mpr ti)).mpr z)
  have h2 := mem_rem ok hx.i ti
  refine Classical.byContradiction fun z => h1 ⟨h2.mpr ⟨(hf t ht).m, fun e => z (.inl (by rw [← e]; exact ht))⟩, fun e => z (.inr (by rw [← e]; exact ht))⟩
/-- x, then y; or y, then x -/
theorem swap_can {p : Pd} (ok : p.Ok) {x y : Tri} (hx : CanP p x) (hy : CanP (p.rem x) y) : CanP p y ∧ CanP (p.rem y) x ∧ (p.rem y).Ok ∧ ((p.rem y).rem x).Ok ∧ (∀ u, Has ((p.rem y).rem x) u ↔ Has ((p.rem x).rem y) u) := by
  have okx := rem_ok ok hx
  have okxy := rem_ok okx hy
  have hyp := (has_rem ok hx.i).mp hy.has
  have cy : CanP p y := can_of okxy ((len_rem _ y).trans (len_rem p x)) rfl hyp.1 (fun v hv => ((has_rem ok hx.i).mp ((has_rem okx hy.i).mp hv).1).1) fun z => ((has_rem okx hy.i).mp z).2 rfl
  have oky := rem_ok ok cy
  have hxy : Has (p.rem y) x := (has_rem ok cy.i).mpr ⟨hx.has, fun e => hyp.2 e.symm⟩
  have cx : CanP (p.rem y) x := can_of okxy ((len_rem _ y).trans ((len_rem p x).trans (len_rem p y).symm)) rfl hxy (fun v hv => by
    obtain ⟨h1, h2⟩ := (has_rem okx hy.i).mp hv
    obtain ⟨h3, h4⟩ := (has_rem ok hx.i).mp h1
    exact (has_rem ok cy.i).mpr ⟨h3, h2⟩) fun z => ((has_rem ok hx.i).mp ((has_rem okx hy.i).mp z).1).2 rfl
  refine ⟨cy, cx, oky, rem_ok oky cx, fun u => ?_⟩
  rw [has_rem oky cx.i, has_rem ok cy.i, has_rem okx hy.i, has_rem ok hx.i]
  exact ⟨fun ⟨⟨h1, h2⟩, h3⟩ => ⟨⟨h1, h3⟩, h2⟩, fun ⟨⟨h1, h2⟩, h3⟩ => ⟨⟨h1, h3⟩, h2⟩⟩
/-- a tuple of answers -/
def MD (H : Hp) (v : V) (l : List Tri) : Prop := ∃ a xs, v = .ref a ∧ H a = some (.tup xs) ∧ All2 (TR H) xs l
theorem MD.kp {H H' : Hp} {v : V} {l : List Tri} (k : Kp H H') (h : MD H v l) : MD H' v l := let ⟨a, xs, e, q, t⟩ := h; ⟨a, xs, e, k a _ q True.intro, t.mono fun _ _ z => z.kp k⟩
def remAll : Pd → List Tri → Pd
  | p, [] => p
  | p, t :: ts => remAll (p.rem t) ts
def Chain : Pd → List Tri → Prop
  | _, [] => True
  | p, t :: ts => CanP p t ∧ Chain (p.rem t) ts
theorem sit_rem {p : Pd} {t : Tri} {L : Nat} {s : Sit} (h : SitOk p L s) : SitOk (p.rem t) L s := ⟨h.a, by rw [len_rem]; exact h.b, h.r, h.l⟩
def sp_shows_mend (K : PySem.W.Frag) : Sp := fun vs H Q _ => ∃ x0 x1 x2 x3, vs = [x0, x1, x2, x3] ∧ ∃ (p : Pd) (a b : Nat) (s : Sit) (ts : List Tri), PL K H x0 p ∧ NW K H x1 a b ∧ ST H x2 s ∧ SitOk p (a + b) s ∧ MD H x3 ts ∧ Chain p ts ∧
  ∀ bb H', Same H H' → (bb = true ↔ KeptP (remAll p ts) a b s) → Q (.bl bb) H'
theorem ok_shows_mend {P : Program} {w : World} {K : PySem.W.Frag} {mg : Str → Option Value} {base : Heap} (T : Tx K mg) : Fn P w K mg base 10 (He.ga K "shows_mend") (sp_shows_mend K) := by
  obtain ⟨fd, F⟩ := T.d_shows_mend
  have hb : Binds K fd ["plant", "news", "situation", "thing"] [] := F.bindsN fun _ _ _ _ _ _ us hl => match us, hl with | [_, _, _, _], _ => rfl
  refine fn_def F sc_shows_mend hb (fun vs H Q E h => by obtain ⟨_, _, _, _, rfl, _⟩ := h; rfl) fun cdv A outer s H vs Q E hr h => ⟨_, PSs.nox (pss_cons (ps_expr (ce_call (ok_need_all (P := P) (w := w) T) (hr.mono (by decide)) rfl T.g_need_all (pa_cons (pv 0) (pa_cons (pv 1) (pa_cons (pv 2) pa_nil)))))
      (pss_cons (ps_if (pt_not (pt_val (pe_callB (kx_isi (K := K)) rfl T.b_isinstance boot_isinstance (pa_cons (pv 3) (pa_cons (pe_bltn (v := .ty "tuple") (by rfl) T.b_tuple boot_tuple rfl) pa_nil))))) (pss_one (ps_ret pe_bl)) pss_nil)
      (pss_cons (ps_for PassesOwn.never rfl (pi_tup (pv 3)) (pg_name (i := 4) sc_shows_mend.nd rfl (by first | exact Or.inl rfl | exact Or.inr rfl)) (pss_cons (ps_if (PW.pt (pw_or (pt_cmpR (op_ownNotIn T.m_contains (ok_Plant_contains T).run (hr.mono (by decide))) (pv 4) (pv 0) (by rfl)) (pw_or1 (pt_cmpR op_eq (pe_callB (cl_len (K := K)) rfl T.b_len boot_len (pa_cons (pe_ix (kx_ix_tup (K := K)) (pe_ix (kx_ix_tup (K := K)) (ce_prop (pv 0) T.pl_moves (ok_Plant_moves T).run (hr.mono (by decide))) (pe_ix (kx_ix_tup (K := K)) (pv 4) pe_int (fun _ _ => rfl)) (fun _ _ => rfl)) (pe_ix (kx_ix_tup (K := K)) (pv 4) pe_int (fun _ _ => rfl)) (fun _ _ => rfl)) pa_nil)) pe_int (nomark _))))) (pss_one (ps_ret pe_bl)) pss_nil)
      (pss_one (ps_set (i := 0) sc_shows_mend.nd rfl (by first | exact Or.inl rfl | exact Or.inr rfl) (pe_op (op_own T.oo_sub (ok_Plant_sub T).run (hr.mono (by decide))) (pv 0) (pv 4))))))
      (pss_one (ps_ret (ce_call (ok_is_kept (P := P) (w := w) T) (hr.mono (by decide)) rfl T.g_is_kept (pa_cons (pv 0) (pa_cons (pv 1) (pa_cons (pv 2) pa_nil))))))))), ?_⟩
  obtain ⟨x0, x1, x2, x3, rfl, h⟩ := h
  obtain ⟨p, a, b, s, ts, hp, hn, hs, ok, ⟨c, xs, rfl, hc, hal⟩, hch, q⟩ := h
  refine ⟨_, rfl, _, rfl, _, rfl, _, _, _, rfl, p, a, b, s, hp, hn, hs, ok, fun H1 hS1 => ?_⟩
  have hc1 := hS1 _ _ hc
  have xl := hal.1
  refine ⟨_, rfl, _, _, _, _, true, rfl, .ty "tuple", ty_tup hc1, kit_tt, true, rfl, iteF ?_⟩
  refine ⟨_, rfl, c, rfl, ⟨xs, sqT hc1⟩, for_tup (xs := xs) (fun k σ H3 => ∃ v z p', σ = [some v, some x1, some x2, some (.ref c), z] ∧ Same H H3 ∧ PL K H3 v p' ∧ SitOk p' (a + b) s ∧ Chain p' (ts.drop k) ∧ remAll p' (ts.drop k) = remAll p ts)
    ⟨x0, none, p, rfl, hS1, hp.kpS hS1, ok, hch, rfl⟩ (fun k σ H3 _ ⟨_, _, _, _, z, _⟩ => sqT (z _ _ hc)) (fun k x σ H3 hx ⟨v, z, p', hσ, hS3, hp3, ok3, ch3, e3⟩ => ?_) fun σ H3 ⟨v, z, p', hσ, hS3, hp3, ok3, ch3, e3⟩ => ?_⟩
  · subst hσ
    obtain ⟨t, ht, htr⟩ := hal.get hx
    have htr3 := htr.kp (Kp.of hS3)
    obtain ⟨tb, rfl, htb⟩ := id htr3
    have ed : ts.drop k = t :: ts.drop (k + 1) := by
      have hl := (List.getElem?_eq_some_iff.mp ht).1
      rw [List.drop_eq_getElem_cons hl]
      congr 1
      exact (List.getElem?_eq_some_iff.mp ht).2
    rw [ed] at ch3 e3
    obtain ⟨can, ch4⟩ := ch3
    obtain ⟨pa, pdx, pfs, rfl, hpa⟩ := hp3.at_
    refine ⟨_, rfl, _, rfl, pa, pdx, pfs, rfl, hpa, _, _, rfl, p', t, hp3, htr3, can.i, true, by rw [decide_eq_true can.m], false, rfl, iteF ?_⟩
    refine ⟨_, rfl, pa, _, pdx, pfs, rfl, rfl, hpa, _, rfl, p', hp3, fun mvv hm => ⟨_, rfl, ?_⟩⟩
    obtain ⟨a1, ys, rowv, r, rfl, f1, f2, f3, f4⟩ := hm.row can.i.a0 can.i.a1
    obtain ⟨a2, ws, cv, l, rfl, g1, g2, g3, g4⟩ := f4.cell can.i.b0 (by rw [hp3.ge.wf.len f3]; exact can.i.b1)
    have el := ans_of f3 g3
    obtain ⟨cc, rfl, hcc⟩ := g4
    have ll := can.l
    refine ⟨_, _, _, _, rfl, rfl, sqT htb, at0, a1, ys, t.1, _, rfl, rfl, sqT f1, f2, _, rfl, _, _, _, _, rfl, rfl, sqT htb, at1, a2, ws, t.2.1, _, rfl, rfl, sqT g1, g2, _, l.length, rfl, .inr ⟨_, sqT hcc, by simp⟩, rfl, false, bl_false (fun z => by
      injection z with z
      rw [el] at ll
      omega), iteF ?_⟩
    refine ⟨_, rfl, _, rfl, pa, pdx, pfs, tb, _, rfl, rfl, hpa, htb, _, _, rfl, p', t, hp3, htr3, can.i, can.m, can.l, fun w H4 hS4 hp4 => ?_⟩
    exact ⟨w, _, p'.rem t, rfl, hS3.trans hS4, hp4, sit_rem ok3, ch4, e3⟩
  · subst hσ
    rw [xl, List.drop_length] at e3
    have e4 : p' = remAll p ts := e3
    refine ⟨_, rfl, _, rfl, _, rfl, _, _, _, rfl, p', a, b, s, hp3, hn.kp (Kp.of hS3), hs.kp (Kp.of hS3), ok3, fun bb H4 hS4 hb => ?_⟩
    rw [e4] at hb
    exact q bb H4 (hS3.trans hS4) hb
def sp_law_without (K : PySem.W.Frag) : Sp := fun vs H Q _ => ∃ x0 x1, vs = [x0, x1] ∧ ∃ (p : Pd) (ts : List Tri), PL K H x0 p ∧ MD H x1 ts ∧ Chain p ts ∧ ∀ v H', Same H H' → PL K H' v (remAll p ts) → Q v H'
theorem ok_law_without {P : Program} {w : World} {K : PySem.W.Frag} {mg : Str → Option Value} {base : Heap} (T : Tx K mg) : Fn P w K mg base 8 (He.ga K "_law_without") (sp_law_without K) := by
  obtain ⟨fd, F⟩ := T.d_law_without
  have hb : Binds K fd ["_law_made_here", "_law_some"] [] := F.bindsN fun _ _ _ _ _ _ us hl => match us, hl with | [_, _], _ => rfl
  refine fn_def F sc_law_without hb (fun vs H Q E h => by obtain ⟨_, _, rfl, _⟩ := h; rfl) fun cdv A outer s H vs Q E hr h => ⟨_, PSs.nox (pss_cons (ps_for PassesOwn.never rfl (pi_tup (pv 1)) (pg_name (i := 2) sc_law_without.nd rfl (by first | exact Or.inl rfl | exact Or.inr rfl)) (pss_one (ps_set (i := 0) sc_law_without.nd rfl (by first | exact Or.inl rfl | exact Or.inr rfl) (pe_op (op_own T.oo_sub (ok_Plant_sub T).run (hr.mono (by decide))) (pv 0) (pv 2)))))
      (pss_one (ps_ret (pv 0)))), ?_⟩
  obtain ⟨x0, x1, rfl, h⟩ := h
  obtain ⟨p, ts, hp, ⟨c, xs, rfl, hc, hal⟩, hch, q⟩ := h
  have xl := hal.1
  refine ⟨_, rfl, c, rfl, ⟨xs, sqT hc⟩, for_tup (xs := xs) (fun k σ H3 => ∃ v z p', σ = [some v, some (.ref c), z] ∧ Same H H3 ∧ PL K H3 v p' ∧ Chain p' (ts.drop k) ∧ remAll p' (ts.drop k) = remAll p ts)
    ⟨x0, none, p, rfl, fun _ _ e => e, hp, hch, rfl⟩ (fun k σ H3 _ ⟨_, _, _, _, z, _⟩ => sqT (z _ _ hc)) (fun k x σ H3 hx ⟨v, z, p', hσ, hS3, hp3, ch3, e3⟩ => ?_) fun σ H3 ⟨v, z, p', hσ, hS3, hp3, ch3, e3⟩ => ?_⟩
  · subst hσ
    obtain ⟨t, ht, htr⟩ := hal.get hx
    have htr3 := htr.kp (Kp.of hS3)
    obtain ⟨tb, rfl, htb⟩ := id htr3
    have ed : ts.drop k = t :: ts.drop (k + 1) := by
      have hl := (List.getElem?_eq_some_iff.mp ht).1
      rw [List.drop_eq_getElem_cons hl]
      congr 1
      exact (List.getElem?_eq_some_iff.mp ht).2
    rw [ed] at ch3 e3
    obtain ⟨can, ch4⟩ := ch3
    obtain ⟨pa, pdx, pfs, rfl, hpa⟩ := hp3.at_
    refine ⟨_, rfl, _, rfl, pa, pdx, pfs, tb, _, rfl, rfl, hpa, htb, _, _, rfl, p', t, hp3, htr3, can.i, can.m, can.l, fun w H4 hS4 hp4 => ?_⟩
    exact ⟨w, _, p'.rem t, rfl, hS3.trans hS4, hp4, ch4, e3⟩
  · subst hσ
    rw [xl, List.drop_length] at e3
    have e4 : p' = remAll p ts := e3
    rw [e4] at hp3
    exact ⟨_, rfl, q v H3 hS3 hp3⟩
end Lh
set_option Elab.async false
set_option linter.all false
set_option maxRecDepth 100000
set_option maxHeartbeats 4000000
/-! mend. -/
namespace Lh
open PySem PySem.Spec PyProof.Rows L2
theorem ms2 {α : Type} {le : α → α → Bool} (a b : α) : [a, b].mergeSort le = if le a b = true then [a, b] else [b, a] := by
  unfold List.mergeSort
  simp [List.MergeSort.Internal.splitInTwo]
  unfold List.merge
  cases le a b <;> simp
theorem asy {x y : List Int} (h : PySem.W.dataLt (dI x) (dI y) = true) : PySem.W.dataLt (dI y) (dI x) = false := by
  rw [PySem.W.dataLt_tuple] at *
  have e := PySem.W.dataLt_ints x y
  have e2 := PySem.W.dataLt_ints y x
  have h1 : x < y := of_decide_eq_true (e.symm.trans h)
  exact e2.trans (decide_eq_false (List.lt_asymm h1))
/-- in the tuples' order -/
def Srt (x y : Tri) : Prop := PySem.W.dataLt (dI (tl y)) (dI (tl x)) = false
abbrev dR (t : Tri) : PyData := dI (tl t)
theorem TR.dp {K : PySem.W.Frag} {H : Hp} {v : V} {t : Tri} (h : TR H v t) : Dp K H v (dR t) := IT.dp h
theorem fl_dR (t : Tri) : Fl 1 (dR t) := fl_dI _
theorem alike_dR (t u : Tri) : PySem.W.alike (dR t) (dR u) = true := alike_dI _ _
theorem srt_two {K : PySem.W.Frag} {H : Hp} {v w : V} {x y : Tri} (hx : TR H v x) (hy : TR H w y) : ∃ bs : List VD, bs.map (·.1) = [v, w] ∧ SrtOk K H bs ∧ ((Srt x y ∧ (bs.mergeSort leD).map (·.1) = [v, w]) ∨ (Srt y x ∧ (bs.mergeSort leD).map (·.1) = [w, v])) := by
  refine ⟨[(v, dR x), (w, dR y)], rfl, ⟨fun b hb => ?_, fun b hb => ?_, fun d hd d' hd' => ?_, .inl fun d hd => ?_, by simp⟩, ?_⟩
  · rcases List.mem_cons.mp hb with z | z
    · rw [z]; exact hx.dp
    · rw [List.mem_singleton.mp z]; exact hy.dp
  · rcases List.mem_cons.mp hb with z | z
    · rw [z]; exact Nat.le_trans (fl_dR x).2 (by decide)
    · rw [List.mem_singleton.mp z]; exact Nat.le_trans (fl_dR y).2 (by decide)
  · have f : ∀ d ∈ [((v, dR x) : VD), (w, dR y)].map (·.2), ∃ t, d = dR t := fun d hd => by
      rcases List.mem_cons.mp hd with z | z
      · exact ⟨x, z⟩
      · exact ⟨y, List.mem_singleton.mp z⟩
    obtain ⟨t, rfl⟩ := f d hd
    obtain ⟨t', rfl⟩ := f d' hd'
    exact alike_dR t t'
  · rcases List.mem_cons.mp hd with z | z
    · rw [z]; exact ⟨_, _, rfl⟩
    · rw [List.mem_singleton.mp z]; exact ⟨_, _, rfl⟩
  · rw [ms2]
    have e : leD (v, dR x) (w, dR y) = !PySem.W.dataLt (dR y) (dR x) := rfl
    rw [e]
    cases h : PySem.W.dataLt (dR y) (dR x) with
    | false => exact .inl ⟨h, rfl⟩
    | true => exact .inr ⟨asy h, rfl⟩
/-- a pair of answers, a tuple -/
def QT (H : Hp) (v : V) (q : Tri × Tri) : Prop := MD H v [q.1, q.2]
abbrev dQ (q : Tri × Tri) : PyData := .tuple [dR q.1, dR q.2]
theorem QT.kp {H H' : Hp} {v : V} {q : Tri × Tri} (k : Kp H H') (h : QT H v q) : QT H' v q := MD.kp k h
theorem QT.dp {K : PySem.W.Frag} {H : Hp} {v : V} {q : Tri × Tri} (h : QT H v q) : Dp K H v (dQ q) := by
  obtain ⟨a, xs, rfl, e, al⟩ := h
  exact .tup (sqT e) (dp_all (enc := dR) (fun v x r => TR.dp r) al)
theorem alike_dQ (q r : Tri × Tri) : PySem.W.alike (dQ q) (dQ r) = true := by
  rw [PySem.W.alike, PySem.W.alikeAll, PySem.W.alikeAll, PySem.W.alikeAll, alike_dR, alike_dR]
  rfl
theorem fl_dQ (q : Tri × Tri) : Fl 2 (dQ q) := fl_tup fun d m => by
  rcases List.mem_cons.mp m with e | m
  · subst e
    exact fl_dR _
  · rw [List.mem_singleton.mp m]
    exact fl_dR _
def rMinDef2 (K : PySem.W.Frag) : List V → List V → Hp → VK → Prop := fun vs zs H Q => ∃ (a : Addr) (xs : List V) (qs : List (Tri × Tri)) (d : V), vs = [.ref a] ∧ zs = [d] ∧ SqL K H a xs ∧ All2 (QT H) xs qs ∧ (qs = [] → Q d H) ∧ ∀ x q, q ∈ qs → QT H x q → Q x H
theorem cr_minDef2 {X : Cx} (hc : X.calm = true) (hu : X.A.units + 64 < cLine) : CallRK X (.builtin "min") [Str.ofString "default"] (rMinDef2 X.K) := by
  intro pins s σ H vs zs us ws Q I r rz h
  obtain ⟨a, xs, qs, d, rfl, rfl, hs, hal, q0, q⟩ := h
  rw [Vals.ref1 r]
  obtain ⟨du, rfl, rd⟩ := rz.one
  obtain ⟨its, rv, pl, _⟩ := I.list hs
  obtain ⟨as, hr⟩ := Dp.readsAll I (qs.map dQ) xs its (dp_all (fun v x r => QT.dp r) hal) rv
  refine PySem.W.min_list_default (I.ok.hd hc) pl.isList (xs := qs.map dQ) (by simpa using hr) ⟨fun x hx y hy => ?_, fun x hx => ?_⟩ ?_ (fun e h' tk k => ?_) fun y ys i v h' tk bs' _ hv _ k => ?_
  · obtain ⟨x', _, rfl⟩ := List.mem_map.mp hx
    obtain ⟨y', _, rfl⟩ := List.mem_map.mp hy
    exact alike_dQ _ _
  · obtain ⟨x', _, rfl⟩ := List.mem_map.mp hx
    exact fun z => nomatch z
  · have := depthAll_le (n := 2) (ds := qs.map dQ) fun d m => by
      obtain ⟨b, hb, rfl⟩ := List.mem_map.mp m
      exact (fl_dQ b).2
    omega
  · exact ⟨d, H, I.kept (t' := tk) k, rd, q0 (by simpa using e)⟩
  · have hv2 : its[i]? = some v := by simpa using hv
    have hil := (List.getElem?_eq_some_iff.mp hv2).1
    have hxl := rv.length
    obtain ⟨u, hu1, hu2⟩ := rv.get (i := i) (x := xs[i]'(by omega)) (List.getElem?_eq_getElem (by omega))
    rw [hv2] at hu1
    cases hu1
    obtain ⟨q1, hq1, hqt⟩ := hal.get (List.getElem?_eq_getElem (l := xs) (i := i) (by omega))
    exact ⟨_, H, I.kept (t' := tk) k, hu2, q _ q1 (List.mem_of_getElem? hq1) hqt⟩
/-- what mend tells -/
inductive MendR (p : Pd) (a b : Nat) (s : Sit) : Option (List Tri) → Prop where
  | kept (h : KeptP p a b s) : MendR p a b s (some [])
  | one {x : Tri} (h : ¬ KeptP p a b s) (c : CanP p x) (k : KeptP (p.rem x) a b s) : MendR p a b s (some [x])
  | two {x y : Tri} (h : ¬ KeptP p a b s) (ns : NoSingle p a b s) (cx : CanP p x) (cy : CanP (p.rem x) y) (k : KeptP ((p.rem x).rem y) a b s) (o : Srt x y) : MendR p a b s (some [x, y])
  | no (h : ¬ KeptP p a b s) (ns : NoSingle p a b s) (np : NoPair p a b s) : MendR p a b s none
/-- told: the value -/
def Told (H : Hp) (v : V) (r : Option (List Tri)) : Prop := match r with
  | none => v = .non
  | some l => MD H v l
def sp_mend (K : PySem.W.Frag) : Sp := fun vs H Q _ => ∃ x0 x1 x2, vs = [x0, x1, x2] ∧ ∃ (p : Pd) (a b : Nat) (s : Sit), PL K H x0 p ∧ NW K H x1 a b ∧ ST H x2 s ∧ SitOk p (a + b) s ∧
  ∀ v H' r, Same H H' → Told H' v r → MendR p a b s r → Q v H'
theorem ok_mend {P : Program} {w : World} {K : PySem.W.Frag} {mg : Str → Option Value} {base : Heap} (T : Tx K mg) : Fn P w K mg base 10 (He.ga K "mend") (sp_mend K) := by
  obtain ⟨fd, F⟩ := T.d_mend
  have hb : Binds K fd ["plant", "news", "situation"] [] := F.bindsN fun _ _ _ _ _ _ us hl => match us, hl with | [_, _, _], _ => rfl
  refine fn_def F sc_mend hb (fun vs H Q E h => by obtain ⟨_, _, _, rfl, _⟩ := h; rfl) fun cdv A outer s H vs Q E hr h => ⟨_, PSs.nox (pss_cons (ps_expr (ce_call (ok_need_all (P := P) (w := w) T) (hr.mono (by decide)) rfl T.g_need_all (pa_cons (pv 0) (pa_cons (pv 1) (pa_cons (pv 2) pa_nil)))))
      (pss_cons (ps_if (pt_val (ce_call (ok_is_kept (P := P) (w := w) T) (hr.mono (by decide)) rfl T.g_is_kept (pa_cons (pv 0) (pa_cons (pv 1) (pa_cons (pv 2) pa_nil))))) (pss_one (ps_ret (ce_tup pa_nil))) pss_nil)
      (pss_cons (ps_set (i := 3) sc_mend.nd rfl (by first | exact Or.inl rfl | exact Or.inr rfl) (ce_call (ok_helpful (P := P) (w := w) T) (hr.mono (by decide)) rfl T.g_helpful (pa_cons (pv 0) (pa_cons (pv 1) (pa_cons (pv 2) pa_nil)))))
      (pss_cons (cs_lc .l (j := 4) rfl sc_mend.nd rfl rfl (sw_true rfl rfl rfl (by decide +kernel)) (pv 3) (blkOk_by (own := [("one", 5)]) (N := n_mend) (sc := defScope s_mend) (by decide +kernel)) (fun _ _ _ _ _ => pg_name (i := 5) sc_mend.nd rfl (Or.inl rfl)) (fun _ _ _ _ _ => (pts_one (pt_val (ce_call (ok_is_kept (P := P) (w := w) T) (hr.mono (by decide)) rfl T.g_is_kept (pa_cons (pe_op (op_own T.oo_sub (ok_Plant_sub T).run (hr.mono (by decide))) (pv 0) (pv 5)) (pa_cons (pv 1) (pa_cons (pv 2) pa_nil))))))) (fun _ _ _ _ _ => (pv 5)))
      (pss_cons (ps_if (pt_cmpR (kx_neD (K := K) hr.units) (pv 4) (ce_lst pa_nil) (nomark _)) (pss_one (ps_ret (ce_tup (pa_cons (pe_ix (kx_ix_list (K := K)) (pv 4) pe_int (fun _ _ => rfl)) pa_nil)))) pss_nil)
      (pss_cons (ps_set (i := 6) sc_mend.nd rfl (by first | exact Or.inl rfl | exact Or.inr rfl) (ce_lst pa_nil))
      (pss_cons (ps_for PassesOwn.never rfl (pi_list (pv 3)) (pg_name (i := 5) sc_mend.nd rfl (by first | exact Or.inl rfl | exact Or.inr rfl)) (pss_cons (ps_set (i := 7) sc_mend.nd rfl (by first | exact Or.inl rfl | exact Or.inr rfl) (pe_op (op_own T.oo_sub (ok_Plant_sub T).run (hr.mono (by decide))) (pv 0) (pv 5)))
      (pss_one (ps_for PassesOwn.never rfl (pi_list (ce_call (ok_helpful (P := P) (w := w) T) (hr.mono (by decide)) rfl T.g_helpful (pa_cons (pv 7) (pa_cons (pv 1) (pa_cons (pv 2) pa_nil))))) (pg_name (i := 8) sc_mend.nd rfl (by first | exact Or.inl rfl | exact Or.inr rfl)) (pss_one (ps_if (pt_val (ce_call (ok_is_kept (P := P) (w := w) T) (hr.mono (by decide)) rfl T.g_is_kept (pa_cons (pe_op (op_own T.oo_sub (ok_Plant_sub T).run (hr.mono (by decide))) (pv 7) (pv 8)) (pa_cons (pv 1) (pa_cons (pv 2) pa_nil))))) (pss_one (ps_expr (kx_bm (K := K) <| pe_bm PySem.F.plainAttrs_list PySem.F.slot_list_append PySem.F.type_list_append mt_append (pv 6) (pa_cons (pe_callTy (kx_tuple (K := K)) rfl T.b_tuple boot_tuple (pa_cons (pe_callB (cr_sortedD hr.units .l) rfl T.b_sorted boot_sorted (pa_cons (ce_lst (pa_cons (pv 5) (pa_cons (pv 8) pa_nil))) pa_nil)) pa_nil)) pa_nil)))) pss_nil))))))
      (pss_one (ps_ret (pe_callBK (cr_minDef2 rfl hr.units) rfl T.b_min boot_min (pa_cons (pv 6) pa_nil) (pk_cons pe_non pk_nil))))))))))), ?_⟩
  obtain ⟨x0, x1, x2, rfl, h⟩ := h
  obtain ⟨p, a, b, s, hp, hn, hs, ok, q⟩ := h
  have pok := hp.ge
  obtain ⟨pa, pdx, pfs, rfl, hpa⟩ := hp.at_
  refine ⟨_, rfl, _, rfl, _, rfl, _, _, _, rfl, p, a, b, s, hp, hn, hs, ok, fun H1 hS1 => ?_⟩
  have k1 := Kp.of hS1
  refine ⟨_, rfl, _, rfl, _, rfl, _, _, _, rfl, p, a, b, s, hp.kpS hS1, hn.kp k1, hs.kp k1, ok, fun bb H2 hS2 hbb => ⟨bb, rfl, ?_⟩⟩
  have hS12 := hS1.trans hS2
  cases bb with
  | true =>
    refine iteT ⟨by simp, fun t H3 ht hS3 ht3 => ?_⟩
    exact q (.ref t) H3 (some []) (hS12.trans hS3) ⟨t, [], rfl, ht3, .nil⟩ (.kept (hbb.mp rfl))
  | false =>
  have hnk : ¬ KeptP p a b s := fun z => by cases hbb.mpr z
  have k2 := Kp.of hS12
  refine iteF ⟨_, rfl, _, rfl, _, rfl, _, _, _, rfl, p, a, b, s, hp.kpS hS12, hn.kp k2, hs.kp k2, ok, hnk, fun F H3 xs fs hS3 hF hF3 hfs fl64 hcan hhits => ?_⟩
  have hS13 := hS12.trans hS3
  have hF0 := none_back hS12 hF
  have fl := hfs.1
  refine ⟨_, rfl, F, xs, rfl, sqL hF3, by omega, by simp, fun k acc H4 => acc.length ≤ k ∧ ∃ us : List Tri, All2 (TR H4) acc us ∧ ∀ t, t ∈ us ↔ t ∈ fs.take k ∧ KeptP (p.rem t) a b s, ⟨Nat.le_refl _, [], .nil, fun t => by simp⟩, fun k acc H4 H5 kp ⟨hl, us, h1, h2⟩ => ⟨hl, us, h1.mono fun _ _ z => z.kp kp, h2⟩, fun k x H4 acc hx ⟨hl, us, hus, hmem⟩ hS4 => ?_, fun A acc H4 hA hS4 hA4 ⟨hl, us, hus, hmem⟩ => ?_⟩
  · obtain ⟨t, ht, htr⟩ := hfs.get hx
    have ek := take_succ' ht
    have can := hcan t (List.mem_of_getElem? ht)
    have htr4 := htr.kp (Kp.of hS4)
    obtain ⟨tb, rfl, htb⟩ := id htr4
    have hS14 := hS13.trans hS4
    have k4 := Kp.of hS14
    refine mTT.mk ⟨_, rfl, _, rfl, pa, pdx, pfs, tb, _, rfl, rfl, hS14 _ _ hpa, htb, _, _, rfl, p, t, hp.kpS hS14, htr4, can.i, can.m, can.l, fun w H5 hS5 hp5 => ?_⟩
    have k5 := Kp.of (hS14.trans hS5)
    refine ⟨_, rfl, _, rfl, _, _, _, rfl, p.rem t, a, b, s, hp5, hn.kp k5, hs.kp k5, sit_rem ok, fun bb H6 hS6 hb6 => ⟨bb, rfl, ?_⟩⟩
    have k46 := Kp.of (hS5.trans hS6)
    cases bb with
    | true =>
      refine iteT (mTE.mk ⟨_, rfl, hS5.trans hS6, by simp; omega, us ++ [t], (hus.mono fun _ _ z => z.kp k46).snoc (htr4.kp k46), fun u => ?_⟩)
      rw [List.mem_append, hmem u, ek, List.mem_append, List.mem_singleton]
      exact ⟨fun z => z.elim (fun z => ⟨.inl z.1, z.2⟩) fun z => ⟨.inr z, by rw [z]; exact hb6.mp rfl⟩, fun ⟨z1, z2⟩ => z1.elim (fun z => .inl ⟨z, z2⟩) .inr⟩
    | false =>
      refine iteF ⟨hS5.trans hS6, by omega, us, hus.mono fun _ _ z => z.kp k46, fun u => ?_⟩
      rw [hmem u, ek, List.mem_append, List.mem_singleton]
      exact ⟨fun z => ⟨.inl z.1, z.2⟩, fun ⟨z1, z2⟩ => z1.elim (fun z => ⟨z, z2⟩) fun z => by rw [z] at z2; cases hb6.mpr z2⟩
  rw [fl, List.take_length] at hmem
  have hS14 := hS13.trans hS4
  have ul := hus.1
  refine ⟨_, rfl, by simp, fun e H5 he hS5 he5 => ⟨.list (us.map dR), .list [], .lst (sqL (hS5 _ _ hA4)) (dp_all (fun v x r => TR.dp r) (hus.mono fun _ _ z => z.kp (Kp.of hS5))), .lst (sqL he5) .nil, (fl_lst (fl_map fl_dR us)).sh (by decide), (fl_lst (n := 0) (by simp)).sh (by decide), _, rfl, ?_⟩⟩
  rw [eqv_nilL]
  have hS15 := hS14.trans hS5
  cases hcu : us with
  | cons t ur =>
    rw [hcu] at hus
    obtain ⟨v, ar, rfl, h1, h2⟩ := hus.cons_inv
    have tm := (hmem t).mp (by rw [hcu]; simp)
    refine iteT ⟨_, rfl, A, _, 0, v, rfl, rfl, sqL (hS5 _ _ hA4), at0, by simp, fun tt H6 htt hS6 htt6 => ?_⟩
    exact q (.ref tt) H6 (some [t]) (hS15.trans hS6) ⟨tt, _, rfl, htt6, .cons (h1.kp (Kp.of (hS5.trans hS6))) .nil⟩ (.one hnk (hcan t tm.1) tm.2)
  | nil =>
  have ns : NoSingle p a b s := fun t ht hk => by
    have := (hmem t).mpr ⟨hit_one pok hhits hcan ht hk, hk⟩
    rw [hcu] at this
    exact nomatch this
  refine iteF ⟨by simp, fun PA H6 hPA hS6 hPA6 => ?_⟩
  have hS16 := hS15.trans hS6
  have hPA0 := none_back hS15 hPA
  have hF6 := (hS4.trans (hS5.trans hS6)) _ _ hF3
  have hfs6 : All2 (TR H6) xs fs := hfs.mono fun _ _ z => z.kp (Kp.of (hS4.trans (hS5.trans hS6)))
  have hFPA : F ≠ PA := fun z => by
    have := (hS4.trans hS5) _ _ hF3
    rw [z, hPA] at this
    exact nomatch this
  let Good : Tri × Tri → Prop := fun r => CanP p r.1 ∧ CanP (p.rem r.1) r.2 ∧ KeptP ((p.rem r.1).rem r.2) a b s ∧ Srt r.1 r.2
  have big : ∀ n : Nat, n ≤ 5000 → n < sizeLine := fun n h => by
    rw [sizeLine_eq]
    omega
  refine ⟨_, rfl, F, rfl, ⟨xs, sqL hF6⟩, for_list (xs := xs) (fun k σ H7 => ∃ z5 z7 z8, σ = [some (.ref pa), some x1, some x2, some (.ref F), some (.ref A), z5, some (.ref PA), z7, z8] ∧ Same H H7 ∧ Kp H6 H7 ∧ H7 F = some (.lst xs) ∧ ∃ pv ps, H7 PA = some (.lst pv) ∧ All2 (QT H7) pv ps ∧ pv.length ≤ 64 * k ∧ (∀ r ∈ ps, Good r) ∧ (ps = [] → ∀ (j : Nat) (f : Tri), j < k → fs[j]? = some f → ∀ y, CanP (p.rem f) y → ¬ KeptP ((p.rem f).rem y) a b s))
    ⟨none, none, none, rfl, hS16, Kp.refl _, hF6, [], [], hPA6, .nil, by simp, (fun r h => nomatch h), fun _ j f hj => absurd hj (Nat.not_lt_zero _)⟩ (fun k σ H7 _ ⟨_, _, _, _, _, _, z, _⟩ => sqL z) (fun k x σ H7 hx ⟨z5, z7, z8, hσ, hS7, hk7, hF7, pv, ps, hpv, hps, pvl, hgood, hno⟩ => ?_) fun σ H7 ⟨z5, z7, z8, hσ, hS7, hk7, hF7, pv, ps, hpv, hps, pvl, hgood, hno⟩ => ?_⟩
  · subst hσ
    obtain ⟨f, hf, htr⟩ := hfs6.get hx
    have fm := List.mem_of_getElem? hf
    have can := hcan f fm
    have kl : k < 64 := by
      have := (List.getElem?_eq_some_iff.mp hf).1
      omega
    have htr7 := htr.kp hk7
    obtain ⟨fb, rfl, hfb⟩ := id htr7
    refine ⟨_, rfl, _, rfl, pa, pdx, pfs, fb, _, rfl, rfl, hS7 _ _ hpa, hfb, _, _, rfl, p, f, hp.kpS hS7, htr7, can.i, can.m, can.l, fun w H8 hS8 hp8 => ?_⟩
    have hS18 := hS7.trans hS8
    have k8 := Kp.of hS18
    obtain ⟨wa, wdx, wfs, rfl, hwa⟩ := hp8.at_
    refine ⟨_, rfl, _, rfl, _, rfl, _, _, _, rfl, p.rem f, a, b, s, hp8, hn.kp k8, hs.kp k8, sit_rem ok, ns f can, fun G H9 ys gs hS9 hG hG9 hgs gl64 hcan2 hhits2 => ?_⟩
    have gl := hgs.1
    have hS19 := hS18.trans hS9
    have hF9 := (hS8.trans hS9) _ _ hF7
    have hpv9 := (hS8.trans hS9) _ _ hpv
    have hGPA : G ≠ PA := fun z => by
      have := hS8 _ _ hpv
      rw [← z, hG] at this
      exact nomatch this
    refine ⟨G, rfl, ⟨ys, sqL hG9⟩, for_list (xs := ys) (fun j σ H10 => ∃ z8, σ = [some (.ref pa), some x1, some x2, some (.ref F), some (.ref A), some (.ref fb), some (.ref PA), some (.ref wa), z8] ∧ Same H H10 ∧ Kp H9 H10 ∧ H10 F = some (.lst xs) ∧ H10 G = some (.lst ys) ∧ ∃ pv' ps', H10 PA = some (.lst pv') ∧ All2 (QT H10) pv' ps' ∧ pv'.length ≤ 64 * k + j ∧ (∀ r ∈ ps', Good r) ∧ (ps' = [] → (∀ (j : Nat) (f : Tri), j < k → fs[j]? = some f → ∀ y, CanP (p.rem f) y → ¬ KeptP ((p.rem f).rem y) a b s) ∧ ∀ (i : Nat) (g : Tri), i < j → gs[i]? = some g → ¬ KeptP ((p.rem f).rem g) a b s))
      ⟨_, rfl, hS19, Kp.refl _, hF9, hG9, pv, ps, hpv9, hps.mono fun _ _ z => z.kp (Kp.of (hS8.trans hS9)), by omega, hgood, fun h => ⟨hno h, fun i g hi => absurd hi (Nat.not_lt_zero _)⟩⟩ (fun j σ H10 _ ⟨_, _, _, _, _, z, _⟩ => sqL z) (fun j y σ H10 hy ⟨z8, hσ, hS10, hk10, hF10, hG10, pv', ps', hpv', hps', pvl', hgood', hno'⟩ => ?_) fun σ H10 ⟨z8, hσ, hS10, hk10, hF10, hG10, pv', ps', hpv', hps', pvl', hgood', hno'⟩ => ?_⟩
    · subst hσ
      obtain ⟨g, hg, htg⟩ := hgs.get hy
      have gm := List.mem_of_getElem? hg
      have cang := hcan2 g gm
      have jl : j < 64 := by
        have := (List.getElem?_eq_some_iff.mp hg).1
        omega
      have htg10 := htg.kp hk10
      obtain ⟨gb, rfl, hgb⟩ := id htg10
      have hwa10 := hk10 _ _ (hS9 _ _ hwa) True.intro
      refine ⟨_, rfl, _, rfl, wa, wdx, wfs, gb, _, rfl, rfl, hwa10, hgb, _, _, rfl, p.rem f, g, (hp8.kpS hS9).kp hk10, htg10, cang.i, cang.m, cang.l, fun u H11 hS11 hp11 => ?_⟩
      have hS111 := hS10.trans hS11
      have k11 := Kp.of hS111
      refine ⟨_, rfl, _, rfl, _, _, _, rfl, (p.rem f).rem g, a, b, s, hp11, hn.kp k11, hs.kp k11, sit_rem (sit_rem ok), fun bb H12 hS12' hb12 => ⟨bb, rfl, ?_⟩⟩
      have hS112 := hS111.trans hS12'
      have s1012 := hS11.trans hS12'
      have hpv12 := s1012 _ _ hpv'
      cases bb with
      | false =>
        refine iteF ⟨_, rfl, hS112, hk10.trans (Kp.of s1012), s1012 _ _ hF10, s1012 _ _ hG10, pv', ps', hpv12, hps'.mono fun _ _ z => z.kp (Kp.of s1012), by omega, hgood', fun h => ⟨(hno' h).1, fun i g' hi hg' => ?_⟩⟩
        by_cases ei : i = j
        · subst ei
          rw [hg] at hg'
          cases hg'
          exact fun z => by cases hb12.mpr z
        · exact (hno' h).2 i g' (by omega) hg'
      | true =>
        have kfg := hb12.mp rfl
        have htf12 : TR H12 (.ref fb) f := ((htr7.kp (Kp.of (hS8.trans hS9))).kp hk10).kp (Kp.of s1012)
        have htg12 : TR H12 (.ref gb) g := htg10.kp (Kp.of s1012)
        refine iteT ⟨_, rfl, .inl ⟨rfl, _, sqL hpv12⟩, _, rfl, _, rfl, by simp, fun l H13 hl hS13' hl13 => ?_⟩
        obtain ⟨bs, eb, okb, hord⟩ := srt_two (K := K) (htf12.kp (Kp.of hS13')) (htg12.kp (Kp.of hS13'))
        refine ⟨l, bs, rfl, by rw [eb]; exact sqL hl13, okb, fun pl H14 hpl hS14' hpl14 => ⟨pl, _, rfl, sqL hpl14, fun tt H15 htt hS15' htt15 => ?_⟩⟩
        have s1215 := hS13'.trans (hS14'.trans hS15')
        have hpv15 := s1215 _ _ hpv12
        have kp16 : Kp H15 (upd H15 PA (.lst (pv' ++ [.ref tt]))) := Kp.lst hpv15
        have kall : Kp H10 (upd H15 PA (.lst (pv' ++ [.ref tt]))) := (Kp.of (s1012.trans s1215)).trans kp16
        have hF15 := (s1012.trans s1215) _ _ hF10
        have hG15 := (s1012.trans s1215) _ _ hG10
        obtain ⟨r, hr1, hr2⟩ : ∃ r : Tri × Tri, QT H15 (.ref tt) r ∧ Good r := by
          have kf := htf12.kp (Kp.of s1215)
          have kg := htg12.kp (Kp.of s1215)
          rcases hord with ⟨o1, o2⟩ | ⟨o1, o2⟩
          · rw [o2] at htt15
            exact ⟨(f, g), ⟨tt, _, rfl, htt15, .cons kf (.cons kg .nil)⟩, can, cang, kfg, o1⟩
          · rw [o2] at htt15
            obtain ⟨c1, c2, c3, c4, c5⟩ := swap_can pok can cang
            exact ⟨(g, f), ⟨tt, _, rfl, htt15, .cons kg (.cons kf .nil)⟩, c1, c2, kept_mono c4 (fun u hu => (c5 u).mp hu) rfl rfl kfg, o1⟩
        refine ⟨PA, pv', _, rfl, rfl, hpv15, big _ (by omega), _, rfl, same_put (hS112.trans s1215) hPA0, hk10.trans kall, by rw [upd_ne hFPA]; exact hF15, by rw [upd_ne hGPA]; exact hG15, _, ps' ++ [r], upd_same, (hps'.mono fun _ _ z => z.kp kall).snoc (hr1.kp kp16), by simp; omega, fun r' hr' => ?_, fun h => ?_⟩
        · rcases List.mem_append.mp hr' with z | z
          · exact hgood' r' z
          · rw [List.mem_singleton.mp z]
            exact hr2
        · simp at h
    · subst hσ
      refine ⟨_, _, _, rfl, hS10, (hk7.trans (Kp.of (hS8.trans hS9))).trans hk10, hF10, pv', ps', hpv', hps', by omega, hgood', fun h j f' hj hf' y hy hk => ?_⟩
      by_cases ej : j = k
      · subst ej
        rw [hf] at hf'
        cases hf'
        have okf := rem_ok pok can
        have := hit_one okf hhits2 hcan2 hy hk
        obtain ⟨i, hi⟩ := List.mem_iff_getElem?.mp this
        exact (hno' h).2 i y (by have := (List.getElem?_eq_some_iff.mp hi).1; omega) hi hk
      · exact (hno' h).1 j f' (by omega) hf' y hy hk
  · subst hσ
    refine ⟨_, rfl, PA, pv, ps, .non, rfl, rfl, sqL hpv, hps, fun hp0 => ?_, fun x r hr hqt => ?_⟩
    · have hno := hno hp0
      refine q .non H7 none hS7 rfl (.no hnk ns fun x hx y hy hk => ?_)
      rcases hit_two pok hhits hcan hx hy hk with z | z
      · obtain ⟨i, hi⟩ := List.mem_iff_getElem?.mp z
        exact hno i x (by have := (List.getElem?_eq_some_iff.mp hi).1; omega) hi y hy hk
      · obtain ⟨c1, c2, c3, c4, c5⟩ := swap_can pok hx hy
        obtain ⟨i, hi⟩ := List.mem_iff_getElem?.mp z
        exact hno i y (by have := (List.getElem?_eq_some_iff.mp hi).1; omega) hi x c2 (kept_mono c4 (fun u hu => (c5 u).mp hu) rfl rfl hk)
    · obtain ⟨g1, g2, g3, g4⟩ := hgood r hr
      exact q x H7 (some [r.1, r.2]) hS7 hqt (.two hnk ns g1 g2 g3 g4)
end Lh
set_option Elab.async false
set_option linter.all false
set_option maxRecDepth 100000
set_option maxHeartbeats 4000000
/-! The law's drawing. -/
namespace Lh
open PySem PySem.Spec PyProof.Rows L2
theorem sbut_put {p : Addr} {H0 H : Hp} {D : Addr} {o : HO} (s : Sbut p H0 H) (h : H0 D = none) : Sbut p H0 (upd H D o) := fun b u n e => by
  rw [upd_ne (ne_of_none e h)]
  exact s b u n e
theorem sbut_same {p : Addr} {H0 H H' : Hp} (s : Sbut p H0 H) (h : Same H H') : Sbut p H0 H' := s.trans (Sbut.of h)
/-- the pen: its state -/
def PN (H : Hp) (pe : Addr) : Prop := ∃ x y z : Int, H pe = some (.lst [.int x, .int y, .int z]) ∧ 0 ≤ y ∧ y < 4294967296
theorem PN.kp {H H' : Hp} {pe : Addr} (s : Sbut pe H H') (h : PN H pe) : Kp H H' := by
  obtain ⟨x, y, z, e, _⟩ := h
  exact s.kp e fun f => f
theorem PN.same {H H' : Hp} {pe : Addr} (s : Same H H') (h : PN H pe) : PN H' pe := let ⟨x, y, z, e, r⟩ := h; ⟨x, y, z, s _ _ e, r⟩
theorem PN.ne {H : Hp} {pe D : Addr} (h : PN H pe) (k : H D = none) : D ≠ pe := fun e => by
  obtain ⟨x, y, z, e2, _⟩ := h
  rw [e, e2] at k
  exact nomatch k
theorem PN.put {H : Hp} {pe D : Addr} {o : HO} (h : PN H pe) (k : D ≠ pe) : PN (upd H D o) pe := by
  obtain ⟨x, y, z, e, r⟩ := h
  exact ⟨x, y, z, by rw [upd_ne (Ne.symm k)]; exact e, r⟩
def sp_law_cell_at (K : PySem.W.Frag) : Sp := fun vs H Q _ => ∃ x0 x1, vs = [x0, x1] ∧ ∃ (a : Addr) (ns : List Int) (k : Nat), x0 = .ref a ∧ SqL K H a (ns.map V.int) ∧ x1 = .int k ∧ ∀ n : Int, Q (.int n) H
theorem ok_law_cell_at {P : Program} {w : World} {K : PySem.W.Frag} {mg : Str → Option Value} {base : Heap} (T : Tx K mg) : Fn P w K mg base 1 (He.ga K "_law_cell_at") (sp_law_cell_at K) := by
  obtain ⟨fd, F⟩ := T.d_law_cell_at
  have hb : Binds K fd ["_law_script", "_law_k"] [] := F.bindsN fun _ _ _ _ _ _ us hl => match us, hl with | [_, _], _ => rfl
  refine fn_def F sc_law_cell_at hb (fun vs H Q E h => by obtain ⟨_, _, rfl, _⟩ := h; rfl) fun cdv A outer s H vs Q E hr h => ⟨_, PSs.nox (pss_cons (ps_if (pt_cmpR op_lt (pv 1) (pe_callB (cl_len (K := K)) rfl T.b_len boot_len (pa_cons (pv 0) pa_nil)) (nomark _)) (pss_one (ps_ret (pe_ix (kx_ix_list (K := K)) (pv 0) (pv 1) (fun _ _ => rfl)))) pss_nil)
      (pss_one (ps_ret pe_int))), ?_⟩
  obtain ⟨x0, x1, rfl, h⟩ := h
  obtain ⟨a, ns, k, rfl, hs, rfl, q⟩ := h
  refine ⟨_, rfl, _, rfl, _, ns.length, rfl, .inl ⟨_, hs, by simp⟩, (k : Int), (ns.length : Int), rfl, rfl, _, rfl, ?_⟩
  by_cases h : (k : Int) < ns.length
  · rw [decide_eq_true h]
    have hk : k < ns.length := by omega
    exact iteT ⟨_, rfl, _, rfl, a, _, (k : Int), .int ns[k], rfl, rfl, hs, atI_nat (by rw [List.getElem?_map, List.getElem?_eq_getElem hk]; rfl), q _⟩
  · rw [decide_eq_false h]
    exact iteF (q 0)
def sp_law_pen (K : PySem.W.Frag) : Sp := fun vs H Q _ => ∃ x0, vs = [x0] ∧ ∃ n : Int, x0 = .int n ∧ ∀ pe H', Same H H' → H pe = none → PN H' pe → Q (.ref pe) H'
theorem ok_law_pen {P : Program} {w : World} {K : PySem.W.Frag} {mg : Str → Option Value} {base : Heap} (T : Tx K mg) : Fn P w K mg base 1 (He.ga K "_law_pen") (sp_law_pen K) := by
  obtain ⟨fd, F⟩ := T.d_law_pen
  have hb : Binds K fd ["_law_cell"] [] := F.bindsN fun _ _ _ _ _ _ us hl => match us, hl with | [_], _ => rfl
  refine fn_def F sc_law_pen hb (fun vs H Q E h => by obtain ⟨_, rfl, _⟩ := h; rfl) fun cdv A outer s H vs Q E hr h => ⟨_, PSs.nox (pss_one (ps_ret (ce_lst (pa_cons (pe_callB (call_max2 rfl) rfl T.b_max boot_max (pa_cons pe_int (pa_cons (pe_op op_sub (pv 0) (pe_op op_pow pe_int pe_int)) pa_nil))) (pa_cons (pe_op op_add (pe_op op_mod (pv 0) pe_int) pe_int) (pa_cons pe_int pa_nil)))))), ?_⟩
  obtain ⟨x0, rfl, h⟩ := h
  obtain ⟨n, rfl, q⟩ := h
  refine ⟨_, rfl, 10, 18, rfl, rfl, ⟨by decide, by decide, by decide⟩, _, _, rfl, rfl, _, _, rfl, _, rfl, _, _, rfl, rfl, (by show (0 : Int) < 2147483629; decide), _, _, rfl, rfl, by simp, fun pe H' hn hS h => ?_⟩
  have h1 := Int.emod_nonneg n (show (2147483629 : Int) ≠ 0 by decide)
  have h2 := Int.emod_lt_of_pos n (show (0 : Int) < 2147483629 by decide)
  exact q pe H' hS hn ⟨_, _, _, h, by omega, by omega⟩
def sp_law_draw (K : PySem.W.Frag) : Sp := fun vs H Q _ => ∃ x0 x1, vs = [x0, x1] ∧ ∃ (pe : Addr) (m : Nat), x0 = .ref pe ∧ PN H pe ∧ x1 = .int m ∧ 0 < m ∧ m ≤ 1000 ∧ ∀ (r : Nat) H', Sbut pe H H' → PN H' pe → r < m → Q (.int r) H'
theorem nat_mod (i : Int) {m : Nat} (h : 0 < m) : ∃ r : Nat, i % (m : Int) = r ∧ r < m := by
  have h1 := Int.emod_nonneg i (show (m : Int) ≠ 0 by omega)
  have h2 := Int.emod_lt_of_pos i (show (0 : Int) < m by omega)
  exact ⟨(i % (m : Int)).toNat, (Int.toNat_of_nonneg h1).symm, by omega⟩
theorem ok_law_draw {P : Program} {w : World} {K : PySem.W.Frag} {mg : Str → Option Value} {base : Heap} (T : Tx K mg) : Fn P w K mg base 1 (He.ga K "_law_draw") (sp_law_draw K) := by
  obtain ⟨fd, F⟩ := T.d_law_draw
  have hb : Binds K fd ["_law_pen_here", "_law_many"] [] := F.bindsN fun _ _ _ _ _ _ us hl => match us, hl with | [_, _], _ => rfl
  refine fn_def F sc_law_draw hb (fun vs H Q E h => by obtain ⟨_, _, rfl, _⟩ := h; rfl) fun cdv A outer s H vs Q E hr h => ⟨_, PSs.nox (pss_cons (ps_if (pt_cmpR op_gt (pe_ix (kx_ix_list (K := K)) (pv 0) pe_int (fun _ _ => rfl)) pe_int (nomark _)) (pss_cons (ps_set (i := 2) sc_law_draw.nd rfl (by first | exact Or.inl rfl | exact Or.inr rfl) (pe_op op_mod (pe_ix (kx_ix_list (K := K)) (pv 0) pe_int (fun _ _ => rfl)) (pv 1)))
      (pss_cons (ps_asg (pe_op op_fdiv (pe_ix (kx_ix_list (K := K)) (pv 0) pe_int (fun _ _ => rfl)) (pv 1)) (pg_sub (pv 0) pe_int set_list))
      (pss_one (ps_ret (pv 2))))) pss_nil)
      (pss_cons (ps_asg (pe_op op_add (pe_ix (kx_ix_list (K := K)) (pv 0) pe_int (fun _ _ => rfl)) pe_int) (pg_sub (pv 0) pe_int set_list))
      (pss_cons (ps_asg (pe_op op_mod (pe_op op_add (pe_op op_add (pe_op op_mul (pe_ix (kx_ix_list (K := K)) (pv 0) pe_int (fun _ _ => rfl)) pe_int) (pe_op op_mul pe_int (pe_ix (kx_ix_list (K := K)) (pv 0) pe_int (fun _ _ => rfl)))) pe_int) pe_int) (pg_sub (pv 0) pe_int set_list))
      (pss_cons (ps_set (i := 3) sc_law_draw.nd rfl (by first | exact Or.inl rfl | exact Or.inr rfl) (pe_op op_mod (pe_op op_add (pe_op op_add (pe_op op_mul (pe_ix (kx_ix_list (K := K)) (pv 0) pe_int (fun _ _ => rfl)) (pe_ix (kx_ix_list (K := K)) (pv 0) pe_int (fun _ _ => rfl))) (pe_op op_mul pe_int (pe_ix (kx_ix_list (K := K)) (pv 0) pe_int (fun _ _ => rfl)))) pe_int) pe_int))
      (pss_cons (ps_set (i := 3) sc_law_draw.nd rfl (by first | exact Or.inl rfl | exact Or.inr rfl) (pe_op op_mod (pe_op op_add (pe_op op_mul (pv 3) (pv 3)) (pe_op op_mul pe_int (pv 3))) pe_int))
      (pss_one (ps_ret (pe_op op_mod (pe_op op_fdiv (pv 3) pe_int) (pv 1))))))))), ?_⟩
  obtain ⟨x0, x1, rfl, h⟩ := h
  obtain ⟨pe, m, rfl, ⟨x, y, z, hpe, y0, y1⟩, rfl, m0, m1, q⟩ := h
  refine ⟨_, rfl, _, _, 0, _, rfl, rfl, sqL hpe, at0, x, 0, rfl, rfl, _, rfl, ?_⟩
  by_cases hx : (0 : Int) < x
  · rw [decide_eq_true hx]
    refine iteT ⟨_, rfl, _, _, 0, _, rfl, rfl, sqL hpe, at0, _, rfl, x, (m : Int), rfl, rfl, by omega, ?_⟩
    refine ⟨_, rfl, _, _, 0, _, rfl, rfl, sqL hpe, at0, _, rfl, x, (m : Int), rfl, rfl, ⟨by omega, by omega⟩, _, rfl, pe, _, 0, 0, rfl, rfl, hpe, rfl, ?_⟩
    obtain ⟨r, e, hr⟩ := nat_mod x m0
    refine ⟨_, rfl, ?_⟩
    have := q r (upd H pe (.lst [.int (x / m), .int y, .int z])) Sbut.upd ⟨_, _, _, upd_same, y0, y1⟩ hr
    rw [← e] at this
    exact this
  · rw [decide_eq_false hx]
    refine iteF ?_
    refine ⟨_, rfl, _, _, 2, _, rfl, rfl, sqL hpe, at2, z, 1, rfl, rfl, _, rfl, pe, _, 2, 2, rfl, rfl, hpe, rfl, ?_⟩
    obtain ⟨H1, e1⟩ : ∃ H1, H1 = upd H pe (.lst [.int x, .int y, .int (z + 1)]) := ⟨_, rfl⟩
    have h1 : H1 pe = some (.lst [.int x, .int y, .int (z + 1)]) := by rw [e1]; exact upd_same
    have s1 : Sbut pe H H1 := by rw [e1]; exact Sbut.upd
    subst e1
    refine ⟨_, rfl, _, _, 1, _, rfl, rfl, sqL h1, at1, y, 48271, rfl, rfl, .inl ⟨by omega, by omega⟩, _, rfl, _, _, 2, _, rfl, rfl, sqL h1, at2, 1009, z + 1, rfl, rfl, .inl ⟨by decide, by decide⟩, _, _, rfl, rfl, _, _, rfl, rfl, _, _, rfl, rfl, (by show (0 : Int) < 2147483647; decide), _, rfl, pe, _, 1, 1, rfl, rfl, h1, rfl, ?_⟩
    generalize hY : (y * 48271 + 1009 * (z + 1) + 7) % 2147483647 = Y
    have Y0 : 0 ≤ Y := by rw [← hY]; exact Int.emod_nonneg _ (by decide)
    have Y1 : Y < 2147483647 := by rw [← hY]; exact Int.emod_lt_of_pos _ (by decide)
    obtain ⟨H2, e2⟩ : ∃ H2, H2 = upd (upd H pe (.lst [.int x, .int y, .int (z + 1)])) pe (.lst [.int x, .int Y, .int (z + 1)]) := ⟨_, rfl⟩
    have h2 : H2 pe = some (.lst [.int x, .int Y, .int (z + 1)]) := by rw [e2]; exact upd_same
    have s2 : Sbut pe H H2 := by rw [e2]; exact s1.trans Sbut.upd
    subst e2 hY
    refine ⟨_, rfl, _, _, 1, _, rfl, rfl, sqL h2, at1, _, rfl, _, _, 1, _, rfl, rfl, sqL h2, at1, _, _, rfl, rfl, .inl ⟨by omega, by omega⟩, _, rfl, _, _, 1, _, rfl, rfl, sqL h2, at1, 69621, _, rfl, rfl, .inl ⟨by decide, by decide⟩, _, _, rfl, rfl, _, _, rfl, rfl, _, _, rfl, rfl, (by show (0 : Int) < 2147483629; decide), ?_⟩
    generalize hM : (((y * 48271 + 1009 * (z + 1) + 7) % 2147483647) * ((y * 48271 + 1009 * (z + 1) + 7) % 2147483647) + 69621 * ((y * 48271 + 1009 * (z + 1) + 7) % 2147483647) + 11) % 2147483629 = M
    have M0 : 0 ≤ M := by rw [← hM]; exact Int.emod_nonneg _ (by decide)
    have M1 : M < 2147483629 := by rw [← hM]; exact Int.emod_lt_of_pos _ (by decide)
    subst hM
    refine ⟨_, rfl, _, rfl, _, _, rfl, rfl, .inl ⟨by omega, by omega⟩, _, rfl, 40014, _, rfl, rfl, .inl ⟨by decide, by decide⟩, _, _, rfl, rfl, _, _, rfl, rfl, (by show (0 : Int) < 2147483587; decide), ?_⟩
    refine ⟨_, rfl, _, 16, rfl, rfl, ⟨by decide, by decide⟩, _, rfl, _, (m : Int), rfl, rfl, by omega, ?_⟩
    obtain ⟨r, e, hr⟩ := nat_mod (((((((y * 48271 + 1009 * (z + 1) + 7) % 2147483647) * ((y * 48271 + 1009 * (z + 1) + 7) % 2147483647) + 69621 * ((y * 48271 + 1009 * (z + 1) + 7) % 2147483647) + 11) % 2147483629) * ((((y * 48271 + 1009 * (z + 1) + 7) % 2147483647) * ((y * 48271 + 1009 * (z + 1) + 7) % 2147483647) + 69621 * ((y * 48271 + 1009 * (z + 1) + 7) % 2147483647) + 11) % 2147483629) + 40014 * ((((y * 48271 + 1009 * (z + 1) + 7) % 2147483647) * ((y * 48271 + 1009 * (z + 1) + 7) % 2147483647) + 69621 * ((y * 48271 + 1009 * (z + 1) + 7) % 2147483647) + 11) % 2147483629)) % 2147483587) / 16) m0
    have := q r _ s2 ⟨_, _, _, h2, Y0, by omega⟩ hr
    rw [← e] at this
    exact this
end Lh
set_option Elab.async false
set_option linter.all false
set_option maxRecDepth 100000
set_option maxHeartbeats 4000000
/-! The law's drawn moves, rows, numbers. -/
namespace Lh
open PySem PySem.Spec PyProof.Rows L2
theorem lcr_pen {n i : Nat} {tt : L2.TT} {te : TE} {vs : List Nat} {σ : L2.St} {Z : Addr → Hp → Prop} {H1 : Hp} {pe : Addr} (hp : PN H1 pe) (R : Nat → List V → Hp → Prop) (r0 : R 0 [] H1) (rk : ∀ k acc H H', Kp H H' → R k acc H → R k acc H')
    (rt : ∀ k H acc, k < n → R k acc H → Sbut pe H1 H → PN H pe → mTT tt ((wipe σ vs).set i (some (.int k))) H fun b H3 => if b = true then mTE te ((wipe σ vs).set i (some (.int k))) H3 fun y H4 => Sbut pe H H4 ∧ PN H4 pe ∧ R (k + 1) (acc ++ [y]) H4 else Sbut pe H H3 ∧ PN H3 pe ∧ R (k + 1) acc H3)
    (rd : ∀ D acc H, H1 D = none → Sbut pe H1 H → PN H pe → H D = some (.lst acc) → R n acc H → Z D H) (D : Addr) (hD : H1 D = none) :
    ∃ J : Nat → List V → Hp → Prop, J 0 [] (upd H1 D (.lst [])) ∧ (∀ k H acc, k < n → J k acc H → H D = some (.lst acc) → mTT tt ((wipe σ vs).set i (some (.int k))) H fun b H3 =>
      if b = true then mTE te ((wipe σ vs).set i (some (.int k))) H3 fun y H4 => H4 D = some (.lst acc) ∧ J (k + 1) (acc ++ [y]) (upd H4 D (.lst (acc ++ [y]))) else H3 D = some (.lst acc) ∧ J (k + 1) acc H3) ∧
      ∀ acc H, H D = some (.lst acc) → J n acc H → Z D H := by
  have ne := hp.ne hD
  refine ⟨fun k acc H => Sbut pe H1 H ∧ PN H pe ∧ R k acc H, ⟨sbut_put (Sbut.refl _ _) hD, hp.put ne, rk _ _ _ _ (Kp.new hD) r0⟩, fun k H acc hk ⟨z1, z2, z3⟩ hd => ?_, fun acc H hd ⟨z1, z2, z3⟩ => rd D acc H hD z1 z2 hd z3⟩
  refine (rt k H acc hk z3 z1 z2).imp fun b H3 q => ?_
  cases b with
  | true =>
    refine iteT ?_
    have q2 : mTE te ((wipe σ vs).set i (some (.int k))) H3 fun y H4 => Sbut pe H H4 ∧ PN H4 pe ∧ R (k + 1) (acc ++ [y]) H4 := by simpa using q
    refine q2.imp fun y H4 ⟨w1, w2, w3⟩ => ?_
    have d4 := w1 _ _ ne hd
    exact ⟨d4, sbut_put (z1.trans w1) hD, w2.put ne, rk _ _ _ _ (Kp.lst d4) w3⟩
  | false =>
    refine iteF ?_
    have q : Sbut pe H H3 ∧ PN H3 pe ∧ R (k + 1) acc H3 := by simpa using q
    exact ⟨q.1 _ _ ne hd, z1.trans q.1, q.2⟩
def sp_law_answers (K : PySem.W.Frag) : Sp := fun vs H Q _ => ∃ x0 x1, vs = [x0, x1] ∧ ∃ (pe : Addr) (m : Nat), x0 = .ref pe ∧ PN H pe ∧ x1 = .int m ∧ 0 < m ∧ m ≤ 4 ∧ ∀ v H' l, Sbut pe H H' → PN H' pe → IT H' v l → l ≠ [] → Asc m l → Q v H'
theorem ok_law_answers {P : Program} {w : World} {K : PySem.W.Frag} {mg : Str → Option Value} {base : Heap} (T : Tx K mg) : Fn P w K mg base 2 (He.ga K "_law_answers") (sp_law_answers K) := by
  obtain ⟨fd, F⟩ := T.d_law_answers
  have hb : Binds K fd ["_law_pen_here", "_law_wide"] [] := F.bindsN fun _ _ _ _ _ _ us hl => match us, hl with | [_, _], _ => rfl
  refine fn_def F sc_law_answers hb (fun vs H Q E h => by obtain ⟨_, _, rfl, _⟩ := h; rfl) fun cdv A outer s H vs Q E hr h => ⟨_, PSs.nox (pss_cons (ps_set (i := 2) sc_law_answers.nd rfl (by first | exact Or.inl rfl | exact Or.inr rfl) (pe_ix (kx_ix_list (K := K)) (ce_lst (pa_cons pe_int (pa_cons pe_int (pa_cons pe_int (pa_cons pe_int (pa_cons pe_int (pa_cons pe_int pa_nil))))))) (ce_call (ok_law_draw (P := P) (w := w) T) (hr.mono (by decide)) rfl T.g_law_draw (pa_cons (pv 0) (pa_cons pe_int pa_nil))) (fun _ _ => rfl)))
      (pss_one (ps_ret (pe_callTy (kx_tuple (K := K)) rfl T.b_tuple boot_tuple (pa_cons (pe_callB (cr_sortedSet rfl) rfl T.b_sorted boot_sorted (pa_cons (pe_callTy (cr_setI rfl .l) rfl T.b_set boot_set (pa_cons (ce_lcR rfl sc_law_answers.nd rfl T.b_range (pa_cons (pv 2) pa_nil) (blkOk_by (own := [("_law_turn", 3)]) (N := n_law_answers) (sc := defScope s_law_answers) (by decide +kernel)) (fun _ _ _ _ _ => pg_name (i := 3) sc_law_answers.nd rfl (Or.inl rfl)) (fun _ _ _ _ _ => pts_nil) (fun _ _ _ _ _ => (ce_call (ok_law_draw (P := P) (w := w) T) (hr.mono (by decide)) rfl T.g_law_draw (pa_cons (pv 0) (pa_cons (pv 1) pa_nil))))) pa_nil)) pa_nil)) pa_nil))))), ?_⟩
  obtain ⟨x0, x1, rfl, h⟩ := h
  obtain ⟨pe, m, rfl, hp, rfl, m0, m4, q⟩ := h
  refine ⟨by simp, fun a H1 ha hS1 ha1 => ?_⟩
  have hp1 := hp.same hS1
  refine ⟨_, rfl, _, _, rfl, pe, 6, rfl, hp1, rfl, by decide, by decide, fun r H2 s2 hp2 hr => ?_⟩
  have ha2 := s2 _ _ (hp.ne ha) ha1
  obtain ⟨n, hn, n1, n3⟩ : ∃ n : Nat, ([.int 1, .int 1, .int 2, .int 2, .int 1, .int 3] : List V)[r]? = some (.int n) ∧ 1 ≤ n ∧ n ≤ 3 := by
    rcases r with _ | _ | _ | _ | _ | _ | r
    · exact ⟨1, rfl, by decide, by decide⟩
    · exact ⟨1, rfl, by decide, by decide⟩
    · exact ⟨2, rfl, by decide, by decide⟩
    · exact ⟨2, rfl, by decide, by decide⟩
    · exact ⟨1, rfl, by decide, by decide⟩
    · exact ⟨3, rfl, by decide, by decide⟩
    · omega
  have s02 : Sbut pe H H2 := (Sbut.of hS1).trans s2
  refine ⟨a, _, (r : Int), .int n, rfl, rfl, sqL ha2, atI_nat hn, ?_⟩
  refine ⟨_, rfl, n, rfl, by omega, by simp, lcr_pen hp2 (fun k acc H => ∃ ns : List Int, acc = ns.map V.int ∧ ns.length = k ∧ ∀ x ∈ ns, 0 ≤ x ∧ x < m) ⟨[], rfl, rfl, fun _ h => nomatch h⟩ (fun _ _ _ _ _ z => z) (fun k H3 acc hk ⟨ns, e1, e2, e3⟩ s3 hp3 => ?_) fun D acc H3 hD s3 hp3 hd ⟨ns, e1, e2, e3⟩ => ?_⟩
  · refine mTT.mk (yesT (mTE.mk ⟨_, rfl, _, rfl, _, _, rfl, pe, m, rfl, hp3, rfl, m0, by omega, fun r' H4 s4 hp4 hr' => ⟨s4, hp4, ns ++ [(r' : Int)], by rw [e1]; simp, by simp [e2], fun x hx => ?_⟩⟩))
    rcases List.mem_append.mp hx with z | z
    · exact e3 x z
    · rw [List.mem_singleton.mp z]
      omega
  · subst e1
    refine ⟨D, ns, rfl, sqL hd, by omega, fun t c H4 hc ht hS4 hset => ⟨t, _, c, rfl, hset, ?_, fun ms p5 hpw hmm hlen2 hn5 => ?_⟩⟩
    · omega
    have hS5 : Same H4 (upd H4 p5 (.lst (ms.map V.int))) := same_new hn5
    refine ⟨p5, _, rfl, sqL upd_same, fun p6 H6 hn6 hS6 h6 => ?_⟩
    have hmm' : ∀ x, x ∈ ms ↔ x ∈ ns := fun x => by rw [hmm x]; simp
    have hS := hS4.trans (hS5.trans hS6)
    refine q _ H6 ms ((s02.trans s3).trans (Sbut.of hS)) (hp3.same hS) ⟨p6, rfl, h6⟩ (fun z => ?_) ⟨hpw, fun x hx => e3 x ((hmm' x).mp hx)⟩
    subst z
    obtain ⟨x, hx⟩ := List.exists_mem_of_length_pos (l := ns) (by omega)
    exact nomatch (hmm' x).mpr hx
def sp_law_moves (K : PySem.W.Frag) : Sp := fun vs H Q _ => ∃ x0 x1, vs = [x0, x1] ∧ ∃ (pe : Addr) (m : Nat), x0 = .ref pe ∧ PN H pe ∧ x1 = .int m ∧ 0 < m ∧ m ≤ 4 ∧ ∀ v H' mv n, Sbut pe H H' → PN H' pe → MT H' v mv → Wf mv n → Q v H'
theorem ok_law_moves {P : Program} {w : World} {K : PySem.W.Frag} {mg : Str → Option Value} {base : Heap} (T : Tx K mg) : Fn P w K mg base 3 (He.ga K "_law_moves") (sp_law_moves K) := by
  obtain ⟨fd, F⟩ := T.d_law_moves
  have hb : Binds K fd ["_law_pen_here", "_law_most"] [] := F.bindsN fun _ _ _ _ _ _ us hl => match us, hl with | [_, _], _ => rfl
  refine fn_def F sc_law_moves hb (fun vs H Q E h => by obtain ⟨_, _, rfl, _⟩ := h; rfl) fun cdv A outer s H vs Q E hr h => ⟨_, PSs.nox (pss_cons (ps_asg (ce_tup (pa_cons (pe_ix (kx_ix_list (K := K)) (ce_lst (pa_cons (pv 1) (pa_cons (pe_op op_add pe_int (ce_call (ok_law_draw (P := P) (w := w) T) (hr.mono (by decide)) rfl T.g_law_draw (pa_cons (pv 0) (pa_cons (pv 1) pa_nil)))) pa_nil))) (ce_call (ok_law_draw (P := P) (w := w) T) (hr.mono (by decide)) rfl T.g_law_draw (pa_cons (pv 0) (pa_cons pe_int pa_nil))) (fun _ _ => rfl)) (pa_cons (pe_ix (kx_ix_list (K := K)) (ce_lst (pa_cons pe_int (pa_cons pe_int (pa_cons pe_int (pa_cons pe_int (pa_cons pe_int (pa_cons pe_int pa_nil))))))) (ce_call (ok_law_draw (P := P) (w := w) T) (hr.mono (by decide)) rfl T.g_law_draw (pa_cons (pv 0) (pa_cons pe_int pa_nil))) (fun _ _ => rfl)) pa_nil))) (pg_tup rfl (pgs_cons (pg_name (i := 2) sc_law_moves.nd rfl (by first | exact Or.inl rfl | exact Or.inr rfl)) (pgs_cons (pg_name (i := 3) sc_law_moves.nd rfl (by first | exact Or.inl rfl | exact Or.inr rfl)) pgs_nil))))
      (pss_one (ps_ret (pe_callTy (kx_tuple (K := K)) rfl T.b_tuple boot_tuple (pa_cons (ce_lcR rfl sc_law_moves.nd rfl T.b_range (pa_cons (pv 2) pa_nil) (blkOk_by (own := [("_law_spot", 5)]) (N := n_law_moves) (sc := defScope s_law_moves) (by decide +kernel)) (fun _ _ _ _ _ => pg_name (i := 5) sc_law_moves.nd rfl (Or.inl rfl)) (fun _ _ _ _ _ => pts_nil) (fun _ _ _ _ _ => (pe_callTy (kx_tuple (K := K)) rfl T.b_tuple boot_tuple (pa_cons (ce_lcR rfl sc_law_moves.nd rfl T.b_range (pa_cons (pv 3) pa_nil) (blkOk_by (own := [("_law_way", 4)]) (by kernel_rfl)) (fun _ _ _ _ _ => pg_name (i := 4) sc_law_moves.nd rfl (Or.inl rfl)) (fun _ _ _ _ _ => pts_nil) (fun _ _ _ _ _ => (ce_call (ok_law_answers (P := P) (w := w) T) (hr.mono (by decide)) rfl T.g_law_answers (pa_cons (pv 0) (pa_cons (pv 2) pa_nil))))) pa_nil)))) pa_nil))))), ?_⟩
  obtain ⟨x0, x1, rfl, h⟩ := h
  obtain ⟨pe, m, rfl, hp, rfl, m0, m4, q⟩ := h
  refine ⟨_, rfl, _, rfl, _, rfl, _, _, rfl, pe, m, rfl, hp, rfl, m0, by omega, fun r1 H1 s1 hp1 hr1 => ?_⟩
  refine ⟨_, _, rfl, rfl, by simp, fun a H2 ha hS2 ha2 => ?_⟩
  have hp2 := hp1.same hS2
  refine ⟨_, rfl, _, _, rfl, pe, 2, rfl, hp2, rfl, by decide, by decide, fun r H3 s3 hp3 hr => ?_⟩
  have ha3 := s3 _ _ (hp1.ne ha) ha2
  obtain ⟨n, hn, n1, n3⟩ : ∃ n : Nat, ([.int m, .int (1 + r1)] : List V)[r]? = some (.int n) ∧ 1 ≤ n ∧ n ≤ 4 := by
    rcases r with _ | _ | r
    · exact ⟨m, rfl, by omega, by omega⟩
    · exact ⟨1 + r1, by simp, by omega, by omega⟩
    · omega
  refine ⟨a, _, (r : Int), .int n, rfl, rfl, sqL ha3, atI_nat hn, ?_⟩
  refine ⟨by simp, fun a2 H4 ha4 hS4 ha24 => ?_⟩
  have hp4 := hp3.same hS4
  refine ⟨_, rfl, _, _, rfl, pe, 6, rfl, hp4, rfl, by decide, by decide, fun r2 H5 s5 hp5 hr2 => ?_⟩
  have ha5 := s5 _ _ (hp3.ne ha4) ha24
  obtain ⟨w, hw, w1, w3⟩ : ∃ n : Nat, ([.int 2, .int 2, .int 1, .int 3, .int 2, .int 3] : List V)[r2]? = some (.int n) ∧ 1 ≤ n ∧ n ≤ 3 := by
    rcases r2 with _ | _ | _ | _ | _ | _ | r
    · exact ⟨2, rfl, by decide, by decide⟩
    · exact ⟨2, rfl, by decide, by decide⟩
    · exact ⟨1, rfl, by decide, by decide⟩
    · exact ⟨3, rfl, by decide, by decide⟩
    · exact ⟨2, rfl, by decide, by decide⟩
    · exact ⟨3, rfl, by decide, by decide⟩
    · omega
  refine ⟨a2, _, (r2 : Int), .int w, rfl, rfl, sqL ha5, atI_nat hw, by simp, fun a6 H6 ha6 hS6 ha66 => ?_⟩
  have hp6 := hp5.same hS6
  have s06 : Sbut pe H H6 := ((s1.trans (Sbut.of hS2)).trans (s3.trans (Sbut.of hS4))).trans (s5.trans (Sbut.of hS6))
  refine ⟨a6, _, rfl, sqT ha66, rfl, _, _, rfl, _, _, rfl, rfl, ?_⟩
  refine ⟨_, rfl, n, rfl, by omega, by simp, lcr_pen hp6 (fun k acc H => ∃ rs : Mv, All2 (RT H) acc rs ∧ rs.length = k ∧ ∀ r ∈ rs, r.length = w ∧ ∀ l ∈ r, l ≠ [] ∧ Asc n l) ⟨[], .nil, rfl, fun _ h => nomatch h⟩ (fun k acc H H' kp ⟨rs, z1, z2⟩ => ⟨rs, z1.mono fun _ _ z => z.kp kp, z2⟩) (fun k H7 acc hk ⟨rs, e1, e2, e3⟩ s7 hp7 => ?_) fun D acc H7 hD s7 hp7 hd ⟨rs, e1, e2, e3⟩ => ?_⟩
  · refine mTT.mk (yesT (mTE.mk ?_))
    refine ⟨_, rfl, w, rfl, by omega, by simp, lcr_pen hp7 (fun k acc H => ∃ rs : List (List Int), All2 (IT H) acc rs ∧ rs.length = k ∧ ∀ l ∈ rs, l ≠ [] ∧ Asc n l) ⟨[], .nil, rfl, fun _ h => nomatch h⟩ (fun k acc H H' kp ⟨rs, z1, z2⟩ => ⟨rs, z1.mono fun _ _ z => z.kp kp, z2⟩) (fun j H8 acc2 hj ⟨ls, f1, f2, f3⟩ s8 hp8 => ?_) fun D2 acc2 H8 hD2 s8 hp8 hd2 ⟨ls, f1, f2, f3⟩ => ?_⟩
    · refine mTT.mk (yesT (mTE.mk ⟨_, rfl, _, rfl, _, _, rfl, pe, n, rfl, hp8, rfl, by omega, by omega, fun v H9 l s9 hp9 hv hne hasc => ⟨s9, hp9, ls ++ [l], (f1.mono fun _ _ z => z.kp (hp8.kp s9)).snoc hv, by simp [f2], fun x hx => ?_⟩⟩))
      rcases List.mem_append.mp hx with z | z
      · exact f3 x z
      · rw [List.mem_singleton.mp z]
        exact ⟨hne, hasc⟩
    · refine ⟨D2, _, rfl, sqL hd2, fun t H9 ht hS9 ht9 => ⟨s8.trans (Sbut.of hS9), hp8.same hS9, rs ++ [ls], (e1.mono fun _ _ z => z.kp ((hp7.kp s8).trans (Kp.of hS9))).snoc ⟨t, _, rfl, ht9, f1.mono fun _ _ z => z.kp (Kp.of hS9)⟩, by simp [e2], fun x hx => ?_⟩⟩
      rcases List.mem_append.mp hx with z | z
      · exact e3 x z
      · rw [List.mem_singleton.mp z]
        exact ⟨f2, f3⟩
  · refine ⟨D, _, rfl, sqL hd, fun t H8 ht hS8 ht8 => ?_⟩
    refine q _ H8 rs w ((s06.trans s7).trans (Sbut.of hS8)) (hp7.same hS8) ⟨t, _, rfl, ht8, e1.mono fun _ _ z => z.kp (Kp.of hS8)⟩ ⟨by omega, by omega, w1, w3, fun r hr => (e3 r hr).1, fun r hr l hl => by rw [e2]; exact (e3 r hr).2 l hl⟩
def sp_law_row (K : PySem.W.Frag) : Sp := fun vs H Q _ => ∃ x0 x1 x2, vs = [x0, x1, x2] ∧ ∃ (pe : Addr) (m L : Nat), x0 = .ref pe ∧ PN H pe ∧ x1 = .int m ∧ 0 < m ∧ m ≤ 4 ∧ x2 = .int L ∧ L ≤ 4 ∧ ∀ v H' l, Sbut pe H H' → PN H' pe → IT H' v l → (∀ o ∈ l, 0 ≤ o ∧ o < m) → l.length ≤ L → Q v H'
theorem ok_law_row {P : Program} {w : World} {K : PySem.W.Frag} {mg : Str → Option Value} {base : Heap} (T : Tx K mg) : Fn P w K mg base 2 (He.ga K "_law_row") (sp_law_row K) := by
  obtain ⟨fd, F⟩ := T.d_law_row
  have hb : Binds K fd ["_law_pen_here", "_law_ways", "_law_most"] [] := F.bindsN fun _ _ _ _ _ _ us hl => match us, hl with | [_, _, _], _ => rfl
  refine fn_def F sc_law_row hb (fun vs H Q E h => by obtain ⟨_, _, _, rfl, _⟩ := h; rfl) fun cdv A outer s H vs Q E hr h => ⟨_, PSs.nox (pss_one (ps_ret (pe_callTy (kx_tuple (K := K)) rfl T.b_tuple boot_tuple (pa_cons (ce_lcR rfl sc_law_row.nd rfl T.b_range (pa_cons (ce_call (ok_law_draw (P := P) (w := w) T) (hr.mono (by decide)) rfl T.g_law_draw (pa_cons (pv 0) (pa_cons (pe_op op_add (pv 2) pe_int) pa_nil))) pa_nil) (blkOk_by (own := [("_law_turn", 3)]) (N := n_law_row) (sc := defScope s_law_row) (by decide +kernel)) (fun _ _ _ _ _ => pg_name (i := 3) sc_law_row.nd rfl (Or.inl rfl)) (fun _ _ _ _ _ => pts_nil) (fun _ _ _ _ _ => (ce_call (ok_law_draw (P := P) (w := w) T) (hr.mono (by decide)) rfl T.g_law_draw (pa_cons (pv 0) (pa_cons (pv 1) pa_nil))))) pa_nil)))), ?_⟩
  obtain ⟨x0, x1, x2, rfl, h⟩ := h
  obtain ⟨pe, m, L, rfl, hp, rfl, m0, m4, rfl, l4, q⟩ := h
  refine ⟨_, rfl, _, rfl, _, _, rfl, rfl, _, _, rfl, pe, L + 1, rfl, hp, rfl, by omega, by omega, fun n H2 s2 hp2 hr => ?_⟩
  refine ⟨n, rfl, by omega, by simp, lcr_pen hp2 (fun k acc H => ∃ ns : List Int, acc = ns.map V.int ∧ ns.length = k ∧ ∀ x ∈ ns, 0 ≤ x ∧ x < m) ⟨[], rfl, rfl, fun _ h => nomatch h⟩ (fun _ _ _ _ _ z => z) (fun k H3 acc hk ⟨ns, e1, e2, e3⟩ s3 hp3 => ?_) fun D acc H3 hD s3 hp3 hd ⟨ns, e1, e2, e3⟩ => ?_⟩
  · refine mTT.mk (yesT (mTE.mk ⟨_, rfl, _, rfl, _, _, rfl, pe, m, rfl, hp3, rfl, m0, by omega, fun r' H4 s4 hp4 hr' => ⟨s4, hp4, ns ++ [(r' : Int)], by rw [e1]; simp, by simp [e2], fun x hx => ?_⟩⟩))
    rcases List.mem_append.mp hx with z | z
    · exact e3 x z
    · rw [List.mem_singleton.mp z]
      omega
  · subst e1
    exact ⟨D, _, rfl, sqL hd, fun t H4 ht hS4 ht4 => q _ H4 ns ((s2.trans s3).trans (Sbut.of hS4)) (hp3.same hS4) ⟨t, rfl, ht4⟩ e3 (by omega)⟩
def sp_law_numbers (K : PySem.W.Frag) : Sp := fun vs H Q _ => ∃ x0 x1, vs = [x0, x1] ∧ ∃ (pe : Addr) (m : Nat), x0 = .ref pe ∧ PN H pe ∧ x1 = .int m ∧ m ≤ 4 ∧ ∀ t H' (a b : Nat), Sbut pe H H' → PN H' pe → H' t = some (.tup [.int a, .int b]) → a + b ≤ m → Q (.ref t) H'
theorem ok_law_numbers {P : Program} {w : World} {K : PySem.W.Frag} {mg : Str → Option Value} {base : Heap} (T : Tx K mg) : Fn P w K mg base 2 (He.ga K "_law_numbers") (sp_law_numbers K) := by
  obtain ⟨fd, F⟩ := T.d_law_numbers
  have hb : Binds K fd ["_law_pen_here", "_law_most"] [] := F.bindsN fun _ _ _ _ _ _ us hl => match us, hl with | [_, _], _ => rfl
  refine fn_def F sc_law_numbers hb (fun vs H Q E h => by obtain ⟨_, _, rfl, _⟩ := h; rfl) fun cdv A outer s H vs Q E hr h => ⟨_, PSs.nox (pss_cons (ps_set (i := 2) sc_law_numbers.nd rfl (by first | exact Or.inl rfl | exact Or.inr rfl) (ce_call (ok_law_draw (P := P) (w := w) T) (hr.mono (by decide)) rfl T.g_law_draw (pa_cons (pv 0) (pa_cons (pe_op op_add (pv 1) pe_int) pa_nil))))
      (pss_one (ps_ret (ce_tup (pa_cons (pv 2) (pa_cons (ce_call (ok_law_draw (P := P) (w := w) T) (hr.mono (by decide)) rfl T.g_law_draw (pa_cons (pv 0) (pa_cons (pe_op op_sub (pe_op op_add (pv 1) pe_int) (pv 2)) pa_nil))) pa_nil)))))), ?_⟩
  obtain ⟨x0, x1, rfl, h⟩ := h
  obtain ⟨pe, m, rfl, hp, rfl, m4, q⟩ := h
  refine ⟨_, rfl, _, rfl, _, _, rfl, rfl, _, _, rfl, pe, m + 1, rfl, hp, rfl, by omega, by omega, fun a H2 s2 hp2 hr => ⟨_, rfl, ?_⟩⟩
  refine ⟨_, rfl, _, rfl, _, _, rfl, rfl, _, rfl, _, _, rfl, rfl, _, _, rfl, pe, m + 1 - a, rfl, hp2, by rw [Int.ofNat_sub (by omega)]; rfl, by omega, by omega, fun b H3 s3 hp3 hr3 => ⟨by simp, fun t H4 ht hS4 ht4 => ?_⟩⟩
  exact q t H4 a b ((s2.trans s3).trans (Sbut.of hS4)) (hp3.same hS4) ht4 (by omega)
def sp_law_some_situation (K : PySem.W.Frag) : Sp := fun vs H Q _ => ∃ x0 x1 x2, vs = [x0, x1, x2] ∧ ∃ (pe : Addr) (mv : Mv) (m L : Nat), x0 = .ref pe ∧ PN H pe ∧ MT H x1 mv ∧ Wf mv m ∧ x2 = .int L ∧ L ≤ 4 ∧ ∀ v H' s, Sbut pe H H' → PN H' pe → ST H' v s → (∀ p : Pd, p.mv = mv → p.m = m → SitOk p L s) → Q v H'
theorem ok_law_some_situation {P : Program} {w : World} {K : PySem.W.Frag} {mg : Str → Option Value} {base : Heap} (T : Tx K mg) : Fn P w K mg base 3 (He.ga K "_law_some_situation") (sp_law_some_situation K) := by
  obtain ⟨fd, F⟩ := T.d_law_some_situation
  have hb : Binds K fd ["_law_pen_here", "_law_moves_here", "_law_most"] [] := F.bindsN fun _ _ _ _ _ _ us hl => match us, hl with | [_, _, _], _ => rfl
  refine fn_def F sc_law_some_situation hb (fun vs H Q E h => by obtain ⟨_, _, _, rfl, _⟩ := h; rfl) fun cdv A outer s H vs Q E hr h => ⟨_, PSs.nox (pss_one (ps_ret (ce_tup (pa_cons (ce_call (ok_law_draw (P := P) (w := w) T) (hr.mono (by decide)) rfl T.g_law_draw (pa_cons (pv 0) (pa_cons (pe_callB (cl_len (K := K)) rfl T.b_len boot_len (pa_cons (pv 1) pa_nil)) pa_nil))) (pa_cons (ce_call (ok_law_row (P := P) (w := w) T) (hr.mono (by decide)) rfl T.g_law_row (pa_cons (pv 0) (pa_cons (pe_callB (cl_len (K := K)) rfl T.b_len boot_len (pa_cons (pe_ix (kx_ix_tup (K := K)) (pv 1) pe_int (fun _ _ => rfl)) pa_nil)) (pa_cons (pv 2) pa_nil)))) pa_nil))))), ?_⟩
  obtain ⟨x0, x1, x2, rfl, h⟩ := h
  obtain ⟨pe, mv, m, L, rfl, hp, hm, wf, rfl, l4, q⟩ := h
  obtain ⟨a, xs, rfl, ha, al⟩ := id hm
  have hl := al.1
  have := wf.n1
  have := wf.n4
  refine ⟨_, rfl, _, rfl, _, mv.length, rfl, .inr ⟨_, sqT ha, hl.symm⟩, _, _, rfl, pe, mv.length, rfl, hp, rfl, by omega, by omega, fun i H2 s2 hp2 hi => ?_⟩
  have kp2 := hp.kp s2
  obtain ⟨r, hr⟩ : ∃ r, mv[0]? = some r := ⟨_, List.getElem?_eq_getElem (by omega)⟩
  obtain ⟨y, hy, b, ys, rfl, hb, al2⟩ := (al.mono fun _ _ z => RT.kp kp2 z).get' hr
  have hrl := wf.row r (List.mem_of_getElem? hr)
  refine ⟨_, rfl, _, rfl, a, xs, 0, _, rfl, rfl, sqT (kp2 _ _ ha True.intro), atI_nat hy, _, m, rfl, .inr ⟨_, sqT hb, by rw [al2.1, hrl]⟩, _, rfl, _, _, _, rfl, pe, m, L, rfl, hp2, rfl, wf.m1, by have := wf.m3; omega, rfl, l4, fun v H3 l s3 hp3 hv hl3 hlen => ⟨by simp, fun t H4 ht hS4 ht4 => ?_⟩⟩
  refine q _ H4 (i, l) ((s2.trans s3).trans (Sbut.of hS4)) (hp3.same hS4) ⟨t, v, rfl, ht4, hv.kp (Kp.of hS4)⟩ fun p e1 e2 => ⟨by simp, by rw [e1]; simp; exact hi, by rw [e2]; exact hl3, hlen⟩
theorem make_news {K : PySem.W.Frag} {H1 : Hp} {Q : VK} {C : Addr} {a b : Nat} (hC : NC K C) (hab : a + b ≤ 2) (q : ∀ x H', Same H1 H' → NW K H' (.ref x) a b → Q (.ref x) H') {x dx : Addr} {H2 : Hp} (hx : H1 x = none) (hS : Same H1 H2) {H' : Hp} {t : Addr} (h1 : ∀ b u, b ≠ x → H2 b = some u → H' b = some u) (h2 : H' x = some (.ins C dx [("numbers", .ref t)])) (h3 : H' t = some (.tup [.int a, .int b])) : Q (.ref x) H' :=
  q x H' (fun b o e => h1 b o (ne_of_none e hx) (hS b o e)) ⟨hab, x, C, dx, t, rfl, hC, h2, h3⟩
theorem dec_i (x y : Int) : decide (V.int x = V.int y) = decide (x = y) := decide_eq_decide.mpr ⟨fun e => by cases e; rfl, fun e => by rw [e]⟩
def sp_law_news (K : PySem.W.Frag) : Sp := fun vs H Q _ => ∃ x0 x1 x2, vs = [x0, x1, x2] ∧ ∃ (a b : Nat) (c : Int), x0 = .int a ∧ x1 = .int b ∧ x2 = .int c ∧ a + b ≤ 2 ∧ ∀ v H', Same H H' → NW K H' v a b → Q v H'
theorem ok_law_news {P : Program} {w : World} {K : PySem.W.Frag} {mg : Str → Option Value} {base : Heap} (T : Tx K mg) : Fn P w K mg base 6 (He.ga K "_law_news") (sp_law_news K) := by
  obtain ⟨fd, F⟩ := T.d_law_news
  have hb : Binds K fd ["_law_late", "_law_lost", "_law_turn"] [] := F.bindsN fun _ _ _ _ _ _ us hl => match us, hl with | [_, _, _], _ => rfl
  refine fn_def F sc_law_news hb (fun vs H Q E h => by obtain ⟨_, _, _, rfl, _⟩ := h; rfl) fun cdv A outer s H vs Q E hr h => ⟨_, PSs.nox (pss_cons (ps_if (PW.pt (pw_and (pt_cmpR op_eq (pv 1) pe_int (nomark _)) (pw_and1 (pt_cmpR op_eq (pv 2) pe_int (nomark _))))) (pss_one (ps_ret (ce_make T.mk_Late (ok_Late_init T) (hr.mono (by decide)) rfl T.g_Late (pa_cons (pv 0) pa_nil)))) pss_nil)
      (pss_one (ps_ret (pe_ifExp (PW.pt (pw_and (pt_cmpR op_eq (pv 0) pe_int (nomark _)) (pw_and1 (pt_cmpR op_eq (pv 2) pe_int (nomark _))))) (ce_make T.mk_Lost (ok_Lost_init T) (hr.mono (by decide)) rfl T.g_Lost (pa_cons (pv 1) pa_nil)) (ce_make T.mk_LateLost (ok_LateLost_init T) (hr.mono (by decide)) rfl T.g_LateLost (pa_cons (pv 0) (pa_cons (pv 1) pa_nil))))))), ?_⟩
  obtain ⟨x0, x1, x2, rfl, h⟩ := h
  obtain ⟨a, b, c, rfl, rfl, rfl, hab, q⟩ := h
  have last : ∀ x dx H2, H x = none → H dx = none → dx ≠ x → Same H H2 → H2 dx = some (.own x) → H2 x = some (.ins (He.ga K "LateLost") dx []) → sp_LateLost_init K [.ref x, .int a, .int b] H2 (fun v H3 => v = .non ∧ Q (.ref x) H3) E0 := fun x dx H2 hx hdx ne hS hown hins =>
    ⟨_, _, _, rfl, x, dx, a, b, rfl, hins, rfl, rfl, by omega, fun H' t h1 h2 h3 => ⟨rfl, make_news (.inr (.inr rfl)) hab (fun x H' => q _ H') hx hS h1 h2 h3⟩⟩
  refine ⟨_, rfl, rfl, _, rfl, ?_⟩
  rw [dec_i]
  by_cases hb : (b : Int) = 0
  · rw [decide_eq_true hb]
    have hb0 : b = 0 := by omega
    subst hb0
    refine iteT ⟨_, rfl, rfl, _, rfl, ?_⟩
    rw [dec_i]
    by_cases hc : c = 0
    · rw [decide_eq_true hc]
      refine iteT ⟨_, rfl, fun x dx H2 hx hdx ne hS hown hins => ⟨_, _, rfl, x, dx, a, rfl, hins, rfl, by omega, fun H' t h1 h2 h3 => ⟨rfl, make_news (.inl rfl) hab (fun x H' => q _ H') hx hS h1 h2 h3⟩⟩⟩
    · rw [decide_eq_false hc]
      refine iteF ⟨_, rfl, rfl, _, rfl, ?_⟩
      rw [dec_i]
      by_cases ha : (a : Int) = 0
      · rw [decide_eq_true ha]
        refine iteT ⟨_, rfl, rfl, _, rfl, ?_⟩
        rw [dec_i, decide_eq_false hc]
        exact iteF ⟨_, rfl, _, rfl, last⟩
      · rw [decide_eq_false ha]
        exact iteF ⟨_, rfl, _, rfl, last⟩
  · rw [decide_eq_false hb]
    refine iteF ⟨_, rfl, rfl, _, rfl, ?_⟩
    rw [dec_i]
    by_cases ha : (a : Int) = 0
    · rw [decide_eq_true ha]
      have ha0 : a = 0 := by omega
      subst ha0
      refine iteT ⟨_, rfl, rfl, _, rfl, ?_⟩
      rw [dec_i]
      by_cases hc : c = 0
      · rw [decide_eq_true hc]
        exact iteT ⟨_, rfl, fun x dx H2 hx hdx ne hS hown hins => ⟨_, _, rfl, x, dx, b, rfl, hins, rfl, by omega, fun H' t h1 h2 h3 => ⟨rfl, make_news (.inr (.inl rfl)) hab (fun x H' => q _ H') hx hS h1 h2 h3⟩⟩⟩
      · rw [decide_eq_false hc]
        exact iteF ⟨_, rfl, _, rfl, last⟩
    · rw [decide_eq_false ha]
      exact iteF ⟨_, rfl, _, rfl, last⟩
def sp_law_made (K : PySem.W.Frag) : Sp := fun vs H Q _ => ∃ x0, vs = [x0] ∧ ∃ (t : Addr) (m b g : V) (p : Pd), x0 = .ref t ∧ H t = some (.tup [m, b, g]) ∧ MT H m p.mv ∧ IT H b p.bad ∧ IT H g p.goal ∧ p.Ok ∧ ∀ v H', Same H H' → PL K H' v p → Q v H'
theorem ok_law_made {P : Program} {w : World} {K : PySem.W.Frag} {mg : Str → Option Value} {base : Heap} (T : Tx K mg) : Fn P w K mg base 6 (He.ga K "_law_made") (sp_law_made K) := by
  obtain ⟨fd, F⟩ := T.d_law_made
  have hb : Binds K fd ["_law_parts"] [] := F.bindsN fun _ _ _ _ _ _ us hl => match us, hl with | [_], _ => rfl
  refine fn_def F sc_law_made hb (fun vs H Q E h => by obtain ⟨_, rfl, _⟩ := h; rfl) fun cdv A outer s H vs Q E hr h => ⟨_, PSs.nox (pss_one (ps_ret (ce_make T.mk_Plant (ok_Plant_init T) (hr.mono (by decide)) rfl T.g_Plant (pa_cons (pe_ix (kx_ix_tup (K := K)) (pv 0) pe_int (fun _ _ => rfl)) (pa_cons (pe_ix (kx_ix_tup (K := K)) (pv 0) pe_int (fun _ _ => rfl)) (pa_cons (pe_ix (kx_ix_tup (K := K)) (pv 0) pe_int (fun _ _ => rfl)) pa_nil)))))), ?_⟩
  obtain ⟨x0, rfl, h⟩ := h
  obtain ⟨t, m, b, g, p, rfl, ht, hm, hb, hg, ok, q⟩ := h
  refine ⟨_, rfl, t, _, 0, _, rfl, rfl, sqT ht, at0, _, rfl, t, _, 1, _, rfl, rfl, sqT ht, at1, _, rfl, t, _, 2, _, rfl, rfl, sqT ht, at2, make_plant hm hb hg ok fun x H' s h => q _ H' s h⟩
end Lh
set_option Elab.async false
set_option linter.all false
set_option maxRecDepth 100000
set_option maxHeartbeats 4000000
/-! The law's mixed list, every triple, the few orders. -/
namespace Lh
open PySem PySem.Spec PyProof.Rows L2
theorem ce_lcGl {X : Cx} {elt iter : Expr} {ifs : List Expr} {scope : Scope} {own : List (Str × Nat)} {x : Str} {px pos : Pos} {i : Nat} {ts te : TE} {tt : L2.TT} (hc : X.calm = true) (hN : X.N.Nodup) (hi : PE X iter ts) (ok : BlkOk X.N X.env.scope scope own) (hg : ∀ (s : Shared) (H : Hp) (C : Addr) (cl : List (Str × Addr)) (fp : List Addr), PG (X.blk s H scope (compEnvC scope cl C X.env) fp) (.Name x px) (gName i))
    (ht : ∀ (s : Shared) (H : Hp) (C : Addr) (cl : List (Str × Addr)) (fp : List Addr), PTs (X.blk s H scope (compEnvC scope cl C X.env) fp) ifs tt)
    (he : ∀ (s : Shared) (H : Hp) (C : Addr) (cl : List (Str × Addr)) (fp : List Addr), PE (X.blk s H scope (compEnvC scope cl C X.env) fp) elt te) (hs : ∀ x, foldedSetIterable iter X.env x = pure x := by intro _; rfl) :
    PE X (.ListComp elt [⟨.Name x px, iter, ifs, 0⟩] scope pos) (cLcG .l X.K (mTE ts) i (mTT tt) (mTE te) (own.map (·.2))) := ce_lcG hc hN hi ok hg ht he .l hs
theorem seqIx {k : Int} {n : Nat} (h0 : 0 ≤ k) (hn : k < n) : seqIndex? k n = some k.toNat := by
  unfold seqIndex?
  have h1 : ¬ k < 0 := by omega
  simp only [h1, if_false]
  have h2 : (decide (0 ≤ k) && decide (k < (n : Int))) = true := by simp [h0, hn]
  rw [h2]
  rfl
def sp_law_mixed (K : PySem.W.Frag) : Sp := fun vs H Q _ => ∃ x0 x1, vs = [x0, x1] ∧ ∃ (pe a : Addr) (xs : List V), x0 = .ref pe ∧ PN H pe ∧ x1 = .ref a ∧ H a = some (.lst xs) ∧ xs.length ≤ 48 ∧ a ≠ pe ∧
  ∀ D acc H', Sbut pe H H' → PN H' pe → H' D = some (.lst acc) → (∀ y ∈ acc, y ∈ xs) → Q (.ref D) H'
theorem ok_law_mixed {P : Program} {w : World} {K : PySem.W.Frag} {mg : Str → Option Value} {base : Heap} (T : Tx K mg) : Fn P w K mg base 2 (He.ga K "_law_mixed") (sp_law_mixed K) := by
  obtain ⟨fd, F⟩ := T.d_law_mixed
  have hb : Binds K fd ["_law_pen_here", "_law_some"] [] := F.bindsN fun _ _ _ _ _ _ us hl => match us, hl with | [_, _], _ => rfl
  refine fn_def F sc_law_mixed hb (fun vs H Q E h => by obtain ⟨_, _, rfl, _⟩ := h; rfl) fun cdv A outer s H vs Q E hr h => ⟨_, PSs.nox (pss_cons (ps_set (i := 2) sc_law_mixed.nd rfl (by first | exact Or.inl rfl | exact Or.inr rfl) (pe_callTy (kx_list (K := K)) rfl T.b_list boot_list (pa_cons (pv 1) pa_nil)))
      (pss_one (ps_ret (ce_lcGl rfl sc_law_mixed.nd (pv 1) (blkOk_by (own := [("_law_one", 3)]) (N := n_law_mixed) (sc := defScope s_law_mixed) (by decide +kernel)) (fun _ _ _ _ _ => pg_name (i := 3) sc_law_mixed.nd rfl (Or.inl rfl)) (fun _ _ _ _ _ => pts_nil) (fun _ _ _ _ _ => (kx_bm (K := K) <| pe_bm PySem.F.plainAttrs_list PySem.F.slot_list_pop PySem.F.type_list_pop mt_popAt (pv 2) (pa_cons (ce_call (ok_law_draw (P := P) (w := w) T) (hr.mono (by decide)) rfl T.g_law_draw (pa_cons (pv 0) (pa_cons (pe_callB (cl_len (K := K)) rfl T.b_len boot_len (pa_cons (pv 2) pa_nil)) pa_nil))) pa_nil))))))), ?_⟩
  obtain ⟨x0, x1, rfl, h⟩ := h
  obtain ⟨pe, a, xs, rfl, hp, rfl, ha, hl, nep, q⟩ := h
  refine ⟨_, rfl, a, xs, rfl, .inl (sqL ha), fun L H1 hL hS1 hL1 => ?_⟩
  have hp1 := hp.same hS1
  have neL : L ≠ pe := hp.ne hL
  have neA : a ≠ L := fun e => by rw [← e, ha] at hL; exact nomatch hL
  refine mTE.mk ⟨_, rfl, a, xs, rfl, sqL (hS1 _ _ ha), by omega, by simp, fun D hD => ?_⟩
  have neD := hp1.ne hD
  have neDL : D ≠ L := fun e => by rw [e, hL1] at hD; exact nomatch hD
  have neDA : D ≠ a := fun e => by rw [e, hS1 _ _ ha] at hD; exact nomatch hD
  refine ⟨fun k acc H3 => Sbut pe H H3 ∧ PN H3 pe ∧ (∃ ls, H3 L = some (.lst ls) ∧ ls.length + k = xs.length ∧ ∀ y ∈ ls, y ∈ xs) ∧ ∀ y ∈ acc, y ∈ xs,
    ⟨sbut_put (Sbut.of hS1) (none_back hS1 hD), hp1.put neD, ⟨xs, by rw [upd_ne (Ne.symm neDL)]; exact hL1, by simp, fun y h => h⟩, fun y h => nomatch h⟩,
    fun k acc H3 z => sqL (z.1 _ _ nep ha), fun k x H3 acc hx ⟨s3, hp3, ⟨ls, l1, l2, l3⟩, l4⟩ hd => ?_, fun acc H3 hd ⟨s3, hp3, _, l4⟩ => q D acc H3 s3 hp3 hd l4⟩
  have hk := (List.getElem?_eq_some_iff.mp hx).1
  refine mTT.mk (yesT (mTE.mk ?_))
  refine ⟨_, rfl, .inl ⟨rfl, _, sqL l1⟩, _, rfl, _, rfl, _, ls.length, rfl, .inl ⟨_, sqL l1, rfl⟩, _, _, rfl, pe, ls.length, rfl, hp3, rfl, by omega, by omega, fun r H4 s4 hp4 hr => ?_⟩
  have l14 := s4 _ _ neL l1
  have hd4 := s4 _ _ neD hd
  refine ⟨L, ls, (r : Int), r, ls[r], rfl, rfl, l14, by omega, by omega, seqIx (by omega) (by omega), List.getElem?_eq_getElem hr, by rw [upd_ne neDL]; exact hd4, sbut_put (sbut_put (s3.trans s4) hL) (none_back hS1 hD), (hp4.put neL).put neD, ⟨ls.eraseIdx r, by rw [upd_ne (Ne.symm neDL)]; exact upd_same, ?_, fun y hy => l3 y (List.mem_of_mem_eraseIdx hy)⟩, fun y hy => ?_⟩
  · rw [List.length_eraseIdx_of_lt hr]
    omega
  · rcases List.mem_append.mp hy with z | z
    · exact l4 y z
    · rw [List.mem_singleton.mp z]
      exact l3 _ (List.getElem_mem hr)
/-- an answer of these moves -/
structure HasM (mv : Mv) (m : Nat) (t : Tri) : Prop where
  a0 : 0 ≤ t.1
  a1 : t.1 < mv.length
  b0 : 0 ≤ t.2.1
  b1 : t.2.1 < m
  c0 : 0 ≤ t.2.2
  c1 : t.2.2 < mv.length
  mm : t.2.2 ∈ LH.ans mv t.1 t.2.1
theorem HasM.has {p : Pd} {t : Tri} (h : HasM p.mv p.m t) : Has p t := ⟨⟨h.a0, h.a1, h.b0, h.b1, h.c0, h.c1⟩, h.mm⟩
def sp_law_every (K : PySem.W.Frag) : Sp := fun vs H Q _ => ∃ x0, vs = [x0] ∧ ∃ mv m, MT H x0 mv ∧ Wf mv m ∧ ∀ D H' acc ts, Same H H' → H D = none → H' D = some (.lst acc) → All2 (TR H') acc ts → ts.length ≤ 48 → (∀ t ∈ ts, HasM mv m t) → Q (.ref D) H'
theorem ok_law_every {P : Program} {w : World} {K : PySem.W.Frag} {mg : Str → Option Value} {base : Heap} (T : Tx K mg) : Fn P w K mg base 1 (He.ga K "_law_every") (sp_law_every K) := by
  obtain ⟨fd, F⟩ := T.d_law_every
  have hb : Binds K fd ["_law_moves_here"] [] := F.bindsN fun _ _ _ _ _ _ us hl => match us, hl with | [_], _ => rfl
  refine fn_def F sc_law_every hb (fun vs H Q E h => by obtain ⟨_, rfl, _⟩ := h; rfl) fun cdv A outer s H vs Q E hr h => ⟨_, PSs.nox (pss_cons (ps_set (i := 1) sc_law_every.nd rfl (by first | exact Or.inl rfl | exact Or.inr rfl) (ce_lst pa_nil))
      (pss_cons (ps_for PassesOwn.never rfl (pi_enumT rfl T.b_enumerate (pa_cons (pv 0) pa_nil)) (pg_tup rfl (pgs_cons (pg_name (i := 2) sc_law_every.nd rfl (by first | exact Or.inl rfl | exact Or.inr rfl)) (pgs_cons (pg_name (i := 3) sc_law_every.nd rfl (by first | exact Or.inl rfl | exact Or.inr rfl)) pgs_nil))) (pss_one (ps_for PassesOwn.never rfl (pi_enumT rfl T.b_enumerate (pa_cons (pv 3) pa_nil)) (pg_tup rfl (pgs_cons (pg_name (i := 4) sc_law_every.nd rfl (by first | exact Or.inl rfl | exact Or.inr rfl)) (pgs_cons (pg_name (i := 5) sc_law_every.nd rfl (by first | exact Or.inl rfl | exact Or.inr rfl)) pgs_nil))) (pss_one (ps_set (i := 1) sc_law_every.nd rfl (by first | exact Or.inl rfl | exact Or.inr rfl) (pe_op op_cat (pv 1) (kx_lc (K := K) (ce_lc .t rfl sc_law_every.nd (pv 5) (blkOk_by (own := [("_law_answer", 6)]) (N := n_law_every) (sc := defScope s_law_every) (by decide +kernel)) (fun _ _ _ _ _ => pg_name (i := 6) sc_law_every.nd rfl (Or.inl rfl)) (fun _ _ _ _ _ => pts_nil) (fun _ _ _ _ _ => (ce_tup (pa_cons (pv 2) (pa_cons (pv 4) (pa_cons (pv 6) pa_nil)))))))))))))
      (pss_one (ps_ret (pv 1))))), ?_⟩
  obtain ⟨x0, rfl, h⟩ := h
  obtain ⟨mv, m, hm, wf, q⟩ := h
  obtain ⟨a, xs, rfl, ha, al⟩ := id hm
  have al1 := al.1
  have n4 := wf.n4
  have m3 := wf.m3
  refine ⟨by simp, fun F0 H1 hF0 hS1 hF01 => ?_⟩
  refine ⟨_, rfl, a, xs, rfl, sqT (hS1 _ _ ha), for_enumT (xs := xs) (fun k σ H3 => ∃ F z2 z3 z4 z5 z6 fv ts, σ = [some (.ref a), some (.ref F), z2, z3, z4, z5, z6] ∧ Same H H3 ∧ H F = none ∧ H3 F = some (.lst fv) ∧ All2 (TR H3) fv ts ∧ ts.length ≤ 12 * k ∧ ∀ t ∈ ts, HasM mv m t)
    ⟨F0, none, none, none, none, none, [], [], rfl, hS1, hF0, hF01, .nil, by simp, fun t h => nomatch h⟩ (fun k σ H3 ⟨_, _, _, _, _, _, _, _, _, z, _⟩ => sqT (z _ _ ha)) (fun k x T_ σ H3 H4 hx ⟨F, z2, z3, z4, z5, z6, fv, ts, hσ, hS3, hF, hF3, hts, htl, hok⟩ hT hS4 hT4 => ?_) fun σ H3 ⟨F, z2, z3, z4, z5, z6, fv, ts, hσ, hS3, hF, hF3, hts, htl, hok⟩ => ?_⟩
  · subst hσ
    have hkl := (List.getElem?_eq_some_iff.mp hx).1
    have hS34 := hS3.trans hS4
    obtain ⟨r, hr, b, ys, rfl, hb, al2⟩ := al.get hx
    have hrl := wf.row r (List.mem_of_getElem? hr)
    have al21 := al2.1
    refine ⟨T_, _, rfl, sqT hT4, rfl, _, _, rfl, _, _, rfl, rfl, ?_⟩
    refine ⟨_, rfl, b, ys, rfl, sqT (hS34 _ _ hb), for_enumT (xs := ys) (fun j σ H5 => ∃ F z4 z5 z6 fv ts, σ = [some (.ref a), some (.ref F), some (.int k), some (.ref b), z4, z5, z6] ∧ Same H H5 ∧ H F = none ∧ H5 F = some (.lst fv) ∧ All2 (TR H5) fv ts ∧ ts.length ≤ 12 * k + 4 * j ∧ ∀ t ∈ ts, HasM mv m t)
      ⟨F, z4, z5, z6, fv, ts, rfl, hS34, hF, hS4 _ _ hF3, hts.mono fun _ _ z => z.kp (Kp.of hS4), by omega, hok⟩ (fun k σ H3 ⟨_, _, _, _, _, _, _, z, _⟩ => sqT (z _ _ hb)) (fun j y T2 σ H5 H6 hy ⟨F, z4, z5, z6, fv, ts, hσ, hS5, hF, hF5, hts, htl, hok⟩ hT2 hS6 hT26 => ?_) fun σ H5 ⟨F, z4, z5, z6, fv, ts, hσ, hS5, hF, hF5, hts, htl, hok⟩ => ?_⟩
    · subst hσ
      have hjl := (List.getElem?_eq_some_iff.mp hy).1
      have hS56 := hS5.trans hS6
      obtain ⟨l, hl, c, rfl, hc⟩ := al2.get hy
      obtain ⟨lne, lasc⟩ := wf.an r (List.mem_of_getElem? hr) l (List.mem_of_getElem? hl)
      have ll := Asc_len lasc
      have hans : LH.ans mv k j = l := ans_of (i := (k : Int)) (o := (j : Int)) hr hl
      refine ⟨T2, _, rfl, sqT hT26, rfl, _, _, rfl, _, _, rfl, rfl, ?_⟩
      refine ⟨_, rfl, _, rfl, c, l.map V.int, rfl, sqT (hS56 _ _ hc), by simp; omega, by simp, fun n acc H7 => ∃ us : List Tri, All2 (TR H7) acc us ∧ us.length = n ∧ ∀ t ∈ us, HasM mv m t, ⟨[], .nil, rfl, fun t h => nomatch h⟩, fun n acc H7 H8 kp ⟨us, u1, u2⟩ => ⟨us, u1.mono fun _ _ z => z.kp kp, u2⟩, fun n x H7 acc hx ⟨us, u1, u2, u3⟩ hS7 => mTT.mk (yesT ?_), fun D acc H7 hD hS7 hD7 ⟨us, u1, u2, u3⟩ => ?_⟩
      · obtain ⟨o, ho, rfl⟩ := ints_at hx
        have hom := List.mem_of_getElem? ho
        refine mTE.mk ⟨_, rfl, _, rfl, _, rfl, by simp, fun t H8 ht hS8 ht8 => ⟨hS8, us ++ [((k : Int), (j : Int), o)], (u1.mono fun _ _ z => z.kp (Kp.of hS8)).snoc ⟨t, rfl, ht8⟩, by simp [u2], fun u hu => ?_⟩⟩
        rcases List.mem_append.mp hu with z | z
        · exact u3 u z
        · rw [List.mem_singleton.mp z]
          have := lasc.2 o hom
          exact ⟨by simp, by simp; omega, by simp, by simp; omega, this.1, this.2, by show o ∈ LH.ans mv k j; rw [hans]; exact hom⟩
      · have u1l := u1.1
        have htsl := hts.1
        have u2' : us.length = l.length := by simpa using u2
        have hF7 := hS7 _ _ (hS6 _ _ hF5)
        have hD0 := none_back hS56 hD
        refine ⟨F, D, fv, acc, rfl, rfl, hF7, hD7, line1000 (by omega), fun p hp => ?_⟩
        have hS8 : Same H7 (upd H7 p (.lst (fv ++ acc))) := same_new hp
        have hS58 := hS56.trans (hS7.trans hS8)
        refine ⟨p, _, _, _, fv ++ acc, ts ++ us, rfl, hS58, none_back (hS56.trans hS7) hp, upd_same, (hts.mono fun _ _ z => z.kp (Kp.of (hS6.trans (hS7.trans hS8)))).append (u1.mono fun _ _ z => z.kp (Kp.of hS8)), by rw [List.length_append]; omega, fun t ht => ?_⟩
        rcases List.mem_append.mp ht with z | z
        · exact hok t z
        · exact u3 t z
    · subst hσ
      exact ⟨F, _, _, _, _, _, fv, ts, rfl, hS5, hF, hF5, hts, by omega, hok⟩
  · subst hσ
    exact ⟨_, rfl, q F H3 fv ts hS3 hF hF3 hts (by omega) hok⟩
/-- the parts of a plant -/
def PTs (H : Hp) (v : V) (p : Pd) : Prop := ∃ t m b g, v = .ref t ∧ H t = some (.tup [m, b, g]) ∧ MT H m p.mv ∧ IT H b p.bad ∧ IT H g p.goal ∧ p.Ok
theorem PTs.kp {H H' : Hp} {v : V} {p : Pd} (k : Kp H H') (h : PTs H v p) : PTs H' v p := let ⟨t, m, b, g, e, h1, h2, h3, h4, h5⟩ := h; ⟨t, m, b, g, e, k _ _ h1 True.intro, h2.kp k, h3.kp k, h4.kp k, h5⟩
theorem cut2 (xs : List V) : cutV xs none (some 2) = xs.take 2 := by
  have e : HT.sIx xs.length xs.length (some 2) = min 2 xs.length := HT.sIx_nat _ _ 2
  unfold cutV
  rw [e]
  show List.take (min 2 xs.length - 0) (List.drop 0 xs) = _
  rw [List.drop_zero, Nat.sub_zero]
  by_cases h : xs.length ≤ 2
  · rw [List.take_of_length_le h, Nat.min_eq_right h, List.take_length]
  · rw [Nat.min_eq_left (by omega)]
def sp_law_few (K : PySem.W.Frag) : Sp := fun vs H Q _ => ∃ x0, vs = [x0] ∧ ∃ p, PTs H x0 p ∧ ∀ v p' H', Same H H' → PTs H' v p' → Q v H'
theorem ok_law_few {P : Program} {w : World} {K : PySem.W.Frag} {mg : Str → Option Value} {base : Heap} (T : Tx K mg) : Fn P w K mg base 2 (He.ga K "_law_few") (sp_law_few K) := by
  obtain ⟨fd, F⟩ := T.d_law_few
  have hb : Binds K fd ["_law_parts"] [] := F.bindsN fun _ _ _ _ _ _ us hl => match us, hl with | [_], _ => rfl
  refine fn_def F sc_law_few hb (fun vs H Q E h => by obtain ⟨_, rfl, _⟩ := h; rfl) fun cdv A outer s H vs Q E hr h => ⟨_, PSs.nox (pss_cons (ps_if (pt_cmpR op_lt (pe_callB (cl_len (K := K)) rfl T.b_len boot_len (pa_cons (ce_call (ok_law_every (P := P) (w := w) T) (hr.mono (by decide)) rfl T.g_law_every (pa_cons (pe_ix (kx_ix_tup (K := K)) (pv 0) pe_int (fun _ _ => rfl)) pa_nil)) pa_nil)) pe_int (nomark _)) (pss_one (ps_ret (pv 0))) pss_nil)
      (pss_one (ps_ret (ce_tup (pa_cons (pe_callTy (kx_tuple (K := K)) rfl T.b_tuple boot_tuple (pa_cons (kx_lc (K := K) (ce_lc .t rfl sc_law_few.nd (pe_ix (kx_ix_tup (K := K)) (pv 0) pe_int (fun _ _ => rfl)) (blkOk_by (own := [("_law_row_here", 1)]) (N := n_law_few) (sc := defScope s_law_few) (by decide +kernel)) (fun _ _ _ _ _ => pg_name (i := 1) sc_law_few.nd rfl (Or.inl rfl)) (fun _ _ _ _ _ => pts_nil) (fun _ _ _ _ _ => (pe_slice (kx_sl (K := K)) (pv 1) po_none (po_some pe_int))))) pa_nil)) (pa_cons (pe_ix (kx_ix_tup (K := K)) (pv 0) pe_int (fun _ _ => rfl)) (pa_cons (pe_ix (kx_ix_tup (K := K)) (pv 0) pe_int (fun _ _ => rfl)) pa_nil))))))), ?_⟩
  obtain ⟨x0, rfl, h⟩ := h
  obtain ⟨p, hpt, q⟩ := h
  obtain ⟨t, mvv, b, g, rfl, ht, hm, hb, hg, ok⟩ := id hpt
  refine ⟨_, rfl, t, _, 0, _, rfl, rfl, sqT ht, at0, _, rfl, p.mv, p.m, hm, ok.wf, fun D H1 acc ts hS1 hD hD1 hts htl _ => ?_⟩
  refine ⟨_, acc.length, rfl, .inl ⟨_, sqL hD1, rfl⟩, acc.length, 17, rfl, rfl, _, rfl, ?_⟩
  by_cases h : (acc.length : Int) < 17
  · rw [decide_eq_true h]
    exact iteT ⟨_, rfl, q _ p H1 hS1 (hpt.kp (Kp.of hS1))⟩
  · rw [decide_eq_false h]
    obtain ⟨a, xs, rfl, ha, al⟩ := id hm
    have al1 := al.1
    have n4 := ok.wf.n4
    have m1 := ok.wf.m1
    refine iteF ⟨_, rfl, t, _, 0, _, rfl, rfl, sqT (hS1 _ _ ht), at0, a, xs, rfl, sqT (hS1 _ _ ha), by omega, by simp, fun k acc H3 => All2 (RT H3) acc ((p.mv.take k).map (List.take 2)), .nil, fun k acc H3 H4 kp z => z.mono fun _ _ z => z.kp kp, fun k x H3 acc hx hR hS3 => mTT.mk (yesT ?_), fun D acc H3 hD hS3 hD3 hR => ?_⟩
    · obtain ⟨r, hr, c, ys, rfl, hc, al2⟩ := al.get hx
      refine mTE.mk ⟨_, rfl, 2, rfl, c, ys, rfl, (hS1.trans hS3) _ _ hc, fun d H4 hS4 hd4 => ⟨hS4, ?_⟩⟩
      show All2 (RT H4) (acc ++ [V.ref d]) ((p.mv.take (k + 1)).map (List.take 2))
      rw [take_succ' hr, List.map_append]
      refine (hR.mono fun _ _ z => RT.kp (Kp.of hS4) z).snoc ⟨d, _, rfl, hd4, ?_⟩
      have e : cutV ys none (some 2) = ys.take 2 := cut2 ys
      exact e ▸ (al2.take 2).mono fun _ _ z => z.kp (Kp.of ((hS1.trans hS3).trans hS4))
    · rw [al1, List.take_length] at hR
      refine ⟨D, acc, rfl, sqL hD3, fun d H4 hd hS4 hd4 => ?_⟩
      have hS14 := hS1.trans (hS3.trans hS4)
      refine ⟨_, rfl, t, _, 1, _, rfl, rfl, sqT (hS14 _ _ ht), at1, _, rfl, t, _, 2, _, rfl, rfl, sqT (hS14 _ _ ht), at2, by simp, fun d5 H5 hd5 hS5 hd55 => ?_⟩
      have kp := Kp.of (hS14.trans hS5)
      refine q _ ⟨p.mv.map (List.take 2), min 2 p.m, p.bad, p.goal⟩ H5 (hS14.trans hS5) ⟨d5, _, _, _, rfl, hd55, ⟨d, acc, rfl, hS5 _ _ hd4, hR.mono fun _ _ z => z.kp (Kp.of (hS4.trans hS5))⟩, hb.kp kp, hg.kp kp, ⟨⟨by simpa using ok.wf.n1, by simpa using n4, by show 1 ≤ min 2 p.m; omega, by show min 2 p.m ≤ 3; omega, fun r hr => ?_, fun r hr l hl => ?_⟩, by simpa using ok.b, by simpa using ok.g, ok.d⟩⟩
      · obtain ⟨r', h1, rfl⟩ := List.mem_map.mp hr
        rw [List.length_take, ok.wf.row r' h1]
      · obtain ⟨r', h1, rfl⟩ := List.mem_map.mp hr
        have := ok.wf.an r' h1 l (List.mem_of_mem_take hl)
        simpa using this
end Lh
set_option Elab.async false
set_option linter.all false
set_option maxRecDepth 100000
set_option maxHeartbeats 4000000
/-! The law's parts of a plant. -/
namespace Lh
open PySem PySem.Spec PyProof.Rows L2
/-- ascending below k -/
def Up (k : Nat) (ns : List Int) : Prop := ns.Pairwise (· < ·) ∧ ∀ x ∈ ns, 0 ≤ x ∧ x < k
theorem Up.mono {k : Nat} {ns : List Int} (h : Up k ns) : Up (k + 1) ns := ⟨h.1, fun x m => by have := h.2 x m; omega⟩
theorem Up.snoc {k : Nat} {ns : List Int} (h : Up k ns) : Up (k + 1) (ns ++ [(k : Int)]) := by
  refine ⟨List.pairwise_append.mpr ⟨h.1, List.pairwise_singleton .., fun x hx y hy => ?_⟩, fun x m => ?_⟩
  · rw [List.mem_singleton.mp hy]
    exact (h.2 x hx).2
  · rcases List.mem_append.mp m with z | z
    · have := h.2 x z
      omega
    · rw [List.mem_singleton.mp z]
      omega
def sp_law_bad_parts (K : PySem.W.Frag) : Sp := fun vs H Q _ => ∃ x0 x1, vs = [x0, x1] ∧ ∃ (pe : Addr) (m : Nat), x0 = .ref pe ∧ PN H pe ∧ x1 = .int m ∧ 0 < m ∧ m ≤ 4 ∧ ∀ v H' p, Sbut pe H H' → PN H' pe → PTs H' v p → Q v H'
theorem ok_law_bad_parts {P : Program} {w : World} {K : PySem.W.Frag} {mg : Str → Option Value} {base : Heap} (T : Tx K mg) : Fn P w K mg base 4 (He.ga K "_law_bad_parts") (sp_law_bad_parts K) := by
  obtain ⟨fd, F⟩ := T.d_law_bad_parts
  have hb : Binds K fd ["_law_pen_here", "_law_most"] [] := F.bindsN fun _ _ _ _ _ _ us hl => match us, hl with | [_, _], _ => rfl
  refine fn_def F sc_law_bad_parts hb (fun vs H Q E h => by obtain ⟨_, _, rfl, _⟩ := h; rfl) fun cdv A outer s H vs Q E hr h => ⟨_, PSs.nox (pss_cons (ps_set (i := 2) sc_law_bad_parts.nd rfl (by first | exact Or.inl rfl | exact Or.inr rfl) (ce_call (ok_law_moves (P := P) (w := w) T) (hr.mono (by decide)) rfl T.g_law_moves (pa_cons (pv 0) (pa_cons (pv 1) pa_nil))))
      (pss_cons (ps_set (i := 3) sc_law_bad_parts.nd rfl (by first | exact Or.inl rfl | exact Or.inr rfl) (pe_callB (cl_len (K := K)) rfl T.b_len boot_len (pa_cons (pv 2) pa_nil)))
      (pss_cons (ps_set (i := 4) sc_law_bad_parts.nd rfl (by first | exact Or.inl rfl | exact Or.inr rfl) (ce_lcR rfl sc_law_bad_parts.nd rfl T.b_range (pa_cons (pv 3) pa_nil) (blkOk_by (own := [("_law_at", 5)]) (N := n_law_bad_parts) (sc := defScope s_law_bad_parts) (by decide +kernel)) (fun _ _ _ _ _ => pg_name (i := 5) sc_law_bad_parts.nd rfl (Or.inl rfl)) (fun _ _ _ _ _ => (pts_one (pt_cmpR op_eq (ce_call (ok_law_draw (P := P) (w := w) T) (hr.mono (by decide)) rfl T.g_law_draw (pa_cons (pv 0) (pa_cons pe_int pa_nil))) pe_int (nomark _)))) (fun _ _ _ _ _ => (pv 5))))
      (pss_cons (ps_set (i := 4) sc_law_bad_parts.nd rfl (by first | exact Or.inl rfl | exact Or.inr rfl) (pe_ifExp (pt_cmpR (kx_neD (K := K) hr.units) (pv 4) (ce_lst pa_nil) (nomark _)) (pv 4) (ce_lst (pa_cons (pe_op op_sub (pv 3) pe_int) pa_nil))))
      (pss_one (ps_ret (ce_tup (pa_cons (pv 2) (pa_cons (pe_callTy (kx_tuple (K := K)) rfl T.b_tuple boot_tuple (pa_cons (pv 4) pa_nil)) (pa_cons (pe_callTy (kx_tuple (K := K)) rfl T.b_tuple boot_tuple (pa_cons (ce_lcR rfl sc_law_bad_parts.nd rfl T.b_range (pa_cons (pv 3) pa_nil) (blkOk_by (own := [("_law_at", 5)]) (N := n_law_bad_parts) (sc := defScope s_law_bad_parts) (by decide +kernel)) (fun _ _ _ _ _ => pg_name (i := 5) sc_law_bad_parts.nd rfl (Or.inl rfl)) (fun _ _ _ _ _ => (pts_one (PW.pt (pw_and (pt_cmpR (kx_notIn (K := K)) (pv 5) (pv 4) (by rfl)) (pw_and1 (pt_cmpR op_eq (ce_call (ok_law_draw (P := P) (w := w) T) (hr.mono (by decide)) rfl T.g_law_draw (pa_cons (pv 0) (pa_cons pe_int pa_nil))) pe_int (nomark _))))))) (fun _ _ _ _ _ => (pv 5))) pa_nil)) pa_nil)))))))))), ?_⟩
  obtain ⟨x0, x1, rfl, h⟩ := h
  obtain ⟨pe, m, rfl, hp, rfl, m0, m4, q⟩ := h
  refine ⟨_, rfl, _, rfl, _, _, rfl, pe, m, rfl, hp, rfl, m0, m4, fun mvv H1 mv n s1 hp1 hm1 wf => ?_⟩
  obtain ⟨a, xs, rfl, ha, al⟩ := id hm1
  have al1 := al.1
  have n1 := wf.n1
  have n4 := wf.n4
  obtain ⟨w, hw⟩ : ∃ w, w = mv.length := ⟨_, rfl⟩
  refine ⟨_, rfl, _, w, rfl, .inr ⟨_, sqT ha, by rw [al1, hw]⟩, ?_⟩
  refine ⟨_, rfl, w, rfl, by omega, by simp, lcr_pen hp1 (fun k acc H => ∃ ns : List Int, acc = ns.map V.int ∧ Up k ns) ⟨[], rfl, List.Pairwise.nil, fun _ h => nomatch h⟩ (fun _ _ _ _ _ z => z) (fun k H3 acc hk ⟨ns, e1, e2⟩ s3 hp3 => ?_) fun D acc H3 hD s3 hp3 hd ⟨ns, e1, e2⟩ => ?_⟩
  · refine mTT.mk ⟨_, rfl, _, _, rfl, pe, 4, rfl, hp3, rfl, by decide, by decide, fun r H4 s4 hp4 hr => ⟨rfl, _, rfl, ?_⟩⟩
    rw [dec_i]
    by_cases h : (r : Int) = 0
    · rw [decide_eq_true h]
      exact iteT (mTE.mk ⟨_, rfl, s4, hp4, ns ++ [(k : Int)], by rw [e1]; simp, e2.snoc⟩)
    · rw [decide_eq_false h]
      exact iteF ⟨s4, hp4, ns, e1, e2.mono⟩
  subst e1
  refine ⟨_, rfl, by simp, fun e H4 he hS4 he4 => ⟨.list (ns.map .int), .list [], dp_lI (hS4 _ _ hd), .lst (sqL he4) .nil, (fl_lst (fl_map fl_int ns)).sh (by decide), (fl_lst (n := 0) (by simp)).sh (by decide), _, rfl, ?_⟩⟩
  rw [eqv_nilL]
  have hp4 := hp3.same hS4
  have s04 : Sbut pe H H4 := (s1.trans s3).trans (Sbut.of hS4)
  have kp14 := (hp1.kp s3).trans (Kp.of hS4)
  by_cases hns : ns = []
  · subst hns
    refine iteF ⟨_, rfl, _, _, rfl, rfl, by simp, fun D5 H5 hD5 hS5 hd5 => ?_⟩
    obtain ⟨bs, hbs, ubs⟩ : ∃ bs : List Int, H5 D5 = some (.lst (bs.map V.int)) ∧ Up w bs := ⟨[(w : Int) - 1], hd5, List.pairwise_singleton .., fun x hx => by rw [List.mem_singleton.mp hx]; omega⟩
    clear hd5
    have neD : D5 ≠ pe := hp4.ne hD5
    have hp5 := hp4.same hS5
    have s05 : Sbut pe H H5 := s04.trans (Sbut.of hS5)
    have kp15 := kp14.trans (Kp.of hS5)
    refine ⟨_, rfl, _, rfl, D5, _, rfl, sqL hbs, fun tb H6 htb hS6 htb6 => ?_⟩
    have hp6 := hp5.same hS6
    refine ⟨_, rfl, w, rfl, by omega, by simp, lcr_pen hp6 (fun k acc H => ∃ ns : List Int, acc = ns.map V.int ∧ Up k ns ∧ ∀ x ∈ ns, x ∉ bs) ⟨[], rfl, ⟨List.Pairwise.nil, fun _ h => nomatch h⟩, fun _ h => nomatch h⟩ (fun _ _ _ _ _ z => z) (fun k H7 acc hk ⟨ns, e1, e2, e3⟩ s7 hp7 => ?_) fun G acc H7 hG s7 hp7 hg ⟨ns, e1, e2, e3⟩ => ?_⟩
    · have hbs7 := s7 _ _ neD (hS6 _ _ hbs)
      refine mTT.mk ⟨_, rfl, _, rfl, D5, _, rfl, .inl (sqL hbs7), rfl, flat_ints _, _, rfl, ?_⟩
      show if (!(inV (.int k) (bs.map V.int))) = true then _ else _
      rw [inV_ints]
      by_cases hkb : (k : Int) ∈ bs
      · rw [decide_eq_true hkb]
        exact iteF (iteF ⟨Sbut.refl _ _, hp7, ns, e1, e2.mono, e3⟩)
      · rw [decide_eq_false hkb]
        refine iteT ⟨_, rfl, _, _, rfl, pe, 6, rfl, hp7, rfl, by decide, by decide, fun r H8 s8 hp8 hr => ⟨rfl, _, rfl, ?_⟩⟩
        rw [dec_i]
        by_cases h : (r : Int) = 0
        · rw [decide_eq_true h]
          refine iteT (mTE.mk ⟨_, rfl, s8, hp8, ns ++ [(k : Int)], by rw [e1]; simp, e2.snoc, fun x hx => ?_⟩)
          rcases List.mem_append.mp hx with z | z
          · exact e3 x z
          · rw [List.mem_singleton.mp z]
            exact hkb
        · rw [decide_eq_false h]
          exact iteF ⟨s8, hp8, ns, e1, e2.mono, e3⟩
    · subst e1
      refine ⟨G, _, rfl, sqL hg, fun tg H8 htg hS8 htg8 => ⟨by simp, fun tt H9 htt hS9 htt9 => ?_⟩⟩
      have kp9 := kp15.trans ((Kp.of hS6).trans ((hp6.kp s7).trans (Kp.of (hS8.trans hS9))))
      have kp79 := (hp6.kp s7).trans (Kp.of (hS8.trans hS9))
      exact q _ H9 ⟨mv, n, bs, ns⟩ (s05.trans ((Sbut.of hS6).trans (s7.trans (Sbut.of (hS8.trans hS9))))) (hp7.same (hS8.trans hS9)) ⟨tt, _, _, _, rfl, htt9, hm1.kp kp9, ⟨tb, rfl, kp79 _ _ htb6 True.intro⟩, ⟨tg, rfl, hS9 _ _ htg8⟩, ⟨wf, hw ▸ ubs, hw ▸ e2, fun x hb hg => e3 x hg hb⟩⟩
  · have he : (!(ns.map PyData.int).isEmpty) = true := by
      cases ns with
      | nil => exact (hns rfl).elim
      | cons _ _ => rfl
    rw [he]
    refine iteT ⟨_, rfl, ?_⟩
    obtain ⟨D5, eD⟩ : ∃ D5, D5 = D := ⟨_, rfl⟩
    obtain ⟨H5, eH⟩ : ∃ H5, H5 = H4 := ⟨_, rfl⟩
    obtain ⟨bs, hbs, ubs⟩ : ∃ bs : List Int, H5 D5 = some (.lst (bs.map V.int)) ∧ Up w bs := ⟨ns, by rw [eD, eH]; exact hS4 _ _ hd, e2⟩
    have neD : D5 ≠ pe := by rw [eD]; exact hp1.ne hD
    have hp5 : PN H5 pe := by rw [eH]; exact hp4
    have s05 : Sbut pe H H5 := by rw [eH]; exact s04
    have kp15 : Kp H1 H5 := by rw [eH]; exact kp14
    clear he
    rw [← eD, ← eH]
    refine ⟨_, rfl, _, rfl, D5, _, rfl, sqL hbs, fun tb H6 htb hS6 htb6 => ?_⟩
    have hp6 := hp5.same hS6
    refine ⟨_, rfl, w, rfl, by omega, by simp, lcr_pen hp6 (fun k acc H => ∃ ns : List Int, acc = ns.map V.int ∧ Up k ns ∧ ∀ x ∈ ns, x ∉ bs) ⟨[], rfl, ⟨List.Pairwise.nil, fun _ h => nomatch h⟩, fun _ h => nomatch h⟩ (fun _ _ _ _ _ z => z) (fun k H7 acc hk ⟨ns, e1, e2, e3⟩ s7 hp7 => ?_) fun G acc H7 hG s7 hp7 hg ⟨ns, e1, e2, e3⟩ => ?_⟩
    · have hbs7 := s7 _ _ neD (hS6 _ _ hbs)
      refine mTT.mk ⟨_, rfl, _, rfl, D5, _, rfl, .inl (sqL hbs7), rfl, flat_ints _, _, rfl, ?_⟩
      show if (!(inV (.int k) (bs.map V.int))) = true then _ else _
      rw [inV_ints]
      by_cases hkb : (k : Int) ∈ bs
      · rw [decide_eq_true hkb]
        exact iteF (iteF ⟨Sbut.refl _ _, hp7, ns, e1, e2.mono, e3⟩)
      · rw [decide_eq_false hkb]
        refine iteT ⟨_, rfl, _, _, rfl, pe, 6, rfl, hp7, rfl, by decide, by decide, fun r H8 s8 hp8 hr => ⟨rfl, _, rfl, ?_⟩⟩
        rw [dec_i]
        by_cases h : (r : Int) = 0
        · rw [decide_eq_true h]
          refine iteT (mTE.mk ⟨_, rfl, s8, hp8, ns ++ [(k : Int)], by rw [e1]; simp, e2.snoc, fun x hx => ?_⟩)
          rcases List.mem_append.mp hx with z | z
          · exact e3 x z
          · rw [List.mem_singleton.mp z]
            exact hkb
        · rw [decide_eq_false h]
          exact iteF ⟨s8, hp8, ns, e1, e2.mono, e3⟩
    · subst e1
      refine ⟨G, _, rfl, sqL hg, fun tg H8 htg hS8 htg8 => ⟨by simp, fun tt H9 htt hS9 htt9 => ?_⟩⟩
      have kp9 := kp15.trans ((Kp.of hS6).trans ((hp6.kp s7).trans (Kp.of (hS8.trans hS9))))
      have kp79 := (hp6.kp s7).trans (Kp.of (hS8.trans hS9))
      exact q _ H9 ⟨mv, n, bs, ns⟩ (s05.trans ((Sbut.of hS6).trans (s7.trans (Sbut.of (hS8.trans hS9))))) (hp7.same (hS8.trans hS9)) ⟨tt, _, _, _, rfl, htt9, hm1.kp kp9, ⟨tb, rfl, kp79 _ _ htb6 True.intro⟩, ⟨tg, rfl, hS9 _ _ htg8⟩, ⟨wf, hw ▸ ubs, hw ▸ e2, fun x hb hg => e3 x hg hb⟩⟩
end Lh
set_option Elab.async false
set_option linter.all false
set_option maxRecDepth 100000
set_option maxHeartbeats 4000000
/-! What is told is right: plain. -/
namespace Lh
open PySem PySem.Spec PyProof.Rows L2
section
variable {p q : Pd} {a b : Nat} {s : Sit} {r r' : Option (List Tri)} {l : List Tri}
theorem mr_kept (m : MendR p a b s r) : KeptP p a b s ↔ r = some [] := by
  cases m with
  | kept h => exact ⟨fun _ => rfl, fun _ => h⟩
  | one h _ _ => exact ⟨fun z => (h z).elim, fun z => by simp at z⟩
  | two h _ _ _ _ _ => exact ⟨fun z => (h z).elim, fun z => by simp at z⟩
  | no h _ _ => exact ⟨fun z => (h z).elim, fun z => by simp at z⟩
theorem mr_chain (m : MendR p a b s (some l)) : Chain p l ∧ KeptP (remAll p l) a b s ∧ l.length ≤ 2 := by
  cases m with
  | kept h => exact ⟨True.intro, h, by simp⟩
  | one _ c k => exact ⟨⟨c, True.intro⟩, k, by simp⟩
  | two _ _ cx cy k _ => exact ⟨⟨cx, cy, True.intro⟩, k, by simp⟩
theorem remAll_ok : ∀ {l : List Tri} {p : Pd}, p.Ok → Chain p l → (remAll p l).Ok
  | [], _, ok, _ => ok
  | t :: _, p, ok, c => remAll_ok (p := p.rem t) (rem_ok ok c.1) c.2
theorem remAll_sit {L : Nat} : ∀ {l : List Tri} {p : Pd}, SitOk p L s → SitOk (remAll p l) L s
  | [], _, h => h
  | _ :: l, _, h => remAll_sit (l := l) (sit_rem h)
theorem remAll_len : ∀ (l : List Tri) (p : Pd), (remAll p l).mv.length = p.mv.length ∧ (remAll p l).m = p.m
  | [], _ => ⟨rfl, rfl⟩
  | t :: l, p => ⟨(remAll_len l (p.rem t)).1.trans (len_rem p t), (remAll_len l (p.rem t)).2⟩
theorem xy_ne (ok : p.Ok) {x y : Tri} (cx : CanP p x) (cy : CanP (p.rem x) y) : y ≠ x := ((has_rem ok cx.i).mp cy.has).2
/-- all told but one do not keep it -/
theorem rest_bad (ok : p.Ok) (m : MendR p a b s (some l)) {o : Tri} (ho : o ∈ l) : Chain p (l.filter fun t => decide (t ≠ o)) ∧ ¬ KeptP (remAll p (l.filter fun t => decide (t ≠ o))) a b s := by
  cases m with
  | kept h => exact nomatch ho
  | one h c k =>
    have := List.mem_singleton.mp ho
    subst this
    have e : ([o].filter fun t => decide (t ≠ o)) = [] := by simp
    rw [e]
    exact ⟨True.intro, h⟩
  | @two x y h ns cx cy k _ =>
    have ne := xy_ne ok cx cy
    rcases List.mem_cons.mp ho with e | e
    · subst e
      have e : ([o, y].filter fun t => decide (t ≠ o)) = [y] := by simp [ne]
      rw [e]
      have c := (swap_can ok cx cy).1
      exact ⟨⟨c, True.intro⟩, ns y c⟩
    · have := List.mem_singleton.mp e
      subst this
      have e : ([x, o].filter fun t => decide (t ≠ o)) = [x] := by simp [Ne.symm ne]
      rw [e]
      exact ⟨⟨cx, True.intro⟩, ns x cx⟩
/-- one more barred ahead of what is told, and the told ones backwards -/
theorem mixed_ok (ok : p.Ok) (m : MendR p a b s (some l)) {u : Tri} (hu : CanP (remAll p l) u) : Chain p (u :: l.reverse) ∧ KeptP (remAll p (u :: l.reverse)) a b s := by
  cases m with
  | kept h => exact ⟨⟨hu, True.intro⟩, kept_mono (rem_ok ok hu) (fun v hv => ((has_rem ok hu.i).mp hv).1) rfl rfl h⟩
  | @one x h c k =>
    have okx := rem_ok ok c
    obtain ⟨c1, c2, _, ok2, iff⟩ := swap_can ok c hu
    exact ⟨⟨c1, c2, True.intro⟩, kept_mono ok2 (fun v hv => ((has_rem okx hu.i).mp ((iff v).mp hv)).1) rfl rfl k⟩
  | @two x y h ns cx cy k _ =>
    have okx := rem_ok ok cx
    have okxy := rem_ok okx cy
    have hu : CanP ((p.rem x).rem y) u := hu
    have okF := rem_ok okxy hu
    have ixy := cx.i
    have hF : ∀ v, Has (((p.rem x).rem y).rem u) v ↔ Has p v ∧ v ≠ x ∧ v ≠ y ∧ v ≠ u := fun v => by
      rw [has_rem okxy hu.i, has_rem okx cy.i, has_rem ok cx.i]
      exact ⟨fun ⟨⟨⟨h1, h2⟩, h3⟩, h4⟩ => ⟨h1, h2, h3, h4⟩, fun ⟨h1, h2, h3, h4⟩ => ⟨⟨⟨h1, h2⟩, h3⟩, h4⟩⟩
    have hux : Has p u ∧ u ≠ x ∧ u ≠ y := by
      obtain ⟨h1, h2⟩ := (has_rem okx cy.i).mp hu.has
      obtain ⟨h3, h4⟩ := (has_rem ok cx.i).mp h1
      exact ⟨h3, h4, h2⟩
    have hyx := (has_rem ok cx.i).mp cy.has
    have ln : (((p.rem x).rem y).rem u).mv.length = p.mv.length := (len_rem _ u).trans ((len_rem _ y).trans (len_rem p x))
    have c1 : CanP p u := can_of okF ln rfl hux.1 (fun v hv => ((hF v).mp hv).1) fun z => ((hF u).mp z).2.2.2 rfl
    have ok1 := rem_ok ok c1
    have hu' : ∀ v, Has (p.rem u) v ↔ Has p v ∧ v ≠ u := fun v => has_rem ok c1.i
    have c2 : CanP (p.rem u) y := can_of okF (ln.trans (len_rem p u).symm) rfl ((hu' y).mpr ⟨hyx.1, fun e => hux.2.2 e.symm⟩) (fun v hv => let z := (hF v).mp hv; (hu' v).mpr ⟨z.1, z.2.2.2⟩) fun z => ((hF y).mp z).2.2.1 rfl
    have ok2 := rem_ok ok1 c2
    have huy : ∀ v, Has ((p.rem u).rem y) v ↔ Has p v ∧ v ≠ u ∧ v ≠ y := fun v => by
      rw [has_rem ok1 c2.i, hu' v]
      exact ⟨fun ⟨⟨h1, h2⟩, h3⟩ => ⟨h1, h2, h3⟩, fun ⟨h1, h2, h3⟩ => ⟨⟨h1, h2⟩, h3⟩⟩
    have c3 : CanP ((p.rem u).rem y) x := can_of okF (ln.trans ((len_rem _ y).trans (len_rem p u)).symm) rfl ((huy x).mpr ⟨cx.has, fun e => hux.2.1 e.symm, fun e => hyx.2 e.symm⟩) (fun v hv => let z := (hF v).mp hv; (huy v).mpr ⟨z.1, z.2.2.2, z.2.2.1⟩) fun z => ((hF x).mp z).2.1 rfl
    have ok3 := rem_ok ok2 c3
    refine ⟨⟨c1, c2, c3, True.intro⟩, kept_mono (p := ((p.rem u).rem y).rem x) (q := (p.rem x).rem y) ok3 (fun v hv => ?_) rfl rfl k⟩
    obtain ⟨h1, h2⟩ := (has_rem ok2 c3.i).mp hv
    obtain ⟨h3, h4, h5⟩ := (huy v).mp h1
    exact (has_rem okx cy.i).mpr ⟨(has_rem ok cx.i).mpr ⟨h3, h2⟩, h5⟩
def cnt : Option (List Tri) → Nat
  | none => 3
  | some l => l.length
/-- p, one answer more -/
theorem more_ok (okp : p.Ok) (okq : q.Ok) {t : Tri} (hln : q.mv.length = p.mv.length) (hm : q.m = p.m) (hb : q.bad = p.bad) (hn : ¬ Has p t) (rt : InR p t) (hq : ∀ u, Has q u ↔ Has p u ∨ u = t) (m : MendR p a b s r) (m' : MendR q a b s r') : cnt r' ≤ cnt r + 1 := by
  have ht : Has q t := (hq t).mpr (.inr rfl)
  have ct : CanP q t := can_of okp hln.symm hm.symm ht (fun v hv => (hq v).mpr (.inl hv)) hn
  have okt := rem_ok okq ct
  have heq : ∀ u, Has (q.rem t) u ↔ Has p u := fun u => by
    rw [has_rem okq ct.i, hq u]
    refine ⟨fun ⟨h1, h2⟩ => h1.elim id fun z => (h2 z).elim, fun h => ⟨.inl h, fun e => hn (e ▸ h)⟩⟩
  have c3 : cnt r' ≤ 3 := by
    cases m' <;> simp [cnt]
  cases m with
  | kept h =>
    have k : KeptP (q.rem t) a b s := kept_mono okt (fun u hu => (heq u).mp hu) hm hb h
    cases m' with
    | kept _ => simp [cnt]
    | one _ _ _ => simp [cnt]
    | two _ ns _ _ _ _ => exact (ns t ct k).elim
    | no _ ns _ => exact (ns t ct k).elim
  | @one x h c k =>
    have okx := rem_ok okp c
    have hpx : ∀ v, Has (p.rem x) v ↔ Has p v ∧ v ≠ x := fun v => has_rem okp c.i
    have ln : (p.rem x).mv.length = (q.rem t).mv.length := (len_rem p x).trans (hln.symm.trans (len_rem q t).symm)
    have cx : CanP (q.rem t) x := can_of okx ln hm.symm ((heq x).mpr c.has) (fun v hv => (heq v).mpr ((hpx v).mp hv).1) fun z => ((hpx x).mp z).2 rfl
    have ok2 := rem_ok okt cx
    have k2 : KeptP ((q.rem t).rem x) a b s := kept_mono (p := (q.rem t).rem x) (q := p.rem x) ok2 (fun v hv => by
      obtain ⟨h1, h2⟩ := (has_rem okt cx.i).mp hv
      exact (hpx v).mpr ⟨(heq v).mp h1, h2⟩) hm hb k
    cases m' with
    | kept _ => simp [cnt]
    | one _ _ _ => simp [cnt]
    | two _ _ _ _ _ _ => simp [cnt]
    | no _ _ np => exact (np t ct x cx k2).elim
  | two _ _ _ _ _ _ => exact c3
  | no _ _ _ => exact Nat.le_trans c3 (by simp [cnt])
theorem add_has (okp : p.Ok) {t : Tri} (rt : InR p t) {l' : List Int} (pm : l'.Perm (LH.ans p.mv t.1 t.2.1 ++ [t.2.2])) : ({ p with mv := LH.setAns p.mv t.1 t.2.1 l' } : Pd).mv.length = p.mv.length ∧ ∀ u, Has { p with mv := LH.setAns p.mv t.1 t.2.1 l' } u ↔ Has p u ∨ u = t := by
  have hi : t.1.toNat < p.mv.length := by have := rt.a0; have := rt.a1; omega
  have ln : (LH.setAns p.mv t.1 t.2.1 l').length = p.mv.length := by
    show (p.mv.modify _ _).length = _
    simp
  have hans : ∀ i o, LH.ans (LH.setAns p.mv t.1 t.2.1 l') i o = if i.toNat = t.1.toNat ∧ o.toNat = t.2.1.toNat then l' else LH.ans p.mv i o := fun i o => LH.ans_setAns p.mv t.1 t.2.1 _ i o hi fun row h => by
    rw [okp.wf.len h]
    have := rt.b0
    have := rt.b1
    omega
  refine ⟨ln, fun u => ?_⟩
  have hr : InR { p with mv := LH.setAns p.mv t.1 t.2.1 l' } u ↔ InR p u := ⟨fun h => ⟨h.a0, by have := h.a1; simp only [ln] at this; exact this, h.b0, h.b1, h.c0, by have := h.c1; simp only [ln] at this; exact this⟩, fun h => ⟨h.a0, by simp only [ln]; exact h.a1, h.b0, h.b1, h.c0, by simp only [ln]; exact h.c1⟩⟩
  unfold Has
  rw [hr]
  show InR p u ∧ u.2.2 ∈ LH.ans (LH.setAns p.mv t.1 t.2.1 l') u.1 u.2.1 ↔ _
  rw [hans]
  by_cases c : u.1.toNat = t.1.toNat ∧ u.2.1.toNat = t.2.1.toNat
  · rw [if_pos c, pm.mem_iff, List.mem_append, List.mem_singleton]
    have e : LH.ans p.mv t.1 t.2.1 = LH.ans p.mv u.1 u.2.1 := by
      unfold LH.ans
      rw [c.1, c.2]
    rw [e]
    refine ⟨fun ⟨h1, h2⟩ => h2.elim (fun z => .inl ⟨h1, z⟩) fun z => .inr ?_, fun h => h.elim (fun z => ⟨z.1, .inl z.2⟩) fun z => ⟨z ▸ rt, .inr (by rw [z])⟩⟩
    have e1 : u.1 = t.1 := by have := h1.a0; have := rt.a0; omega
    have e2 : u.2.1 = t.2.1 := by have := h1.b0; have := rt.b0; omega
    exact Prod.ext e1 (Prod.ext e2 z)
  · rw [if_neg c]
    exact ⟨fun h => .inl h, fun h => h.elim id fun z => (c (by rw [z]; exact ⟨rfl, rfl⟩)).elim⟩
end
theorem told_srt {K : PySem.W.Frag} {H : Hp} {p : Pd} {a b : Nat} {s : Sit} {l : List Tri} {xs : List V} (m : MendR p a b s (some l)) (hal : All2 (TR H) xs l) : ∃ bs : List VD, bs.map (·.1) = xs ∧ SrtOk K H bs ∧ (bs.mergeSort leD).map (·.1) = xs := by
  cases m with
  | kept _ =>
    have e := hal.nil_inv
    subst e
    exact ⟨[], rfl, ⟨(fun b h => nomatch h), (fun b h => nomatch h), (fun d h => nomatch h), .inl (fun d h => nomatch h), by simp⟩, by simp⟩
  | @one x _ _ _ =>
    obtain ⟨v, r, rfl, h1, h2⟩ := hal.cons_inv
    have e := h2.nil_inv
    subst e
    refine ⟨[(v, dR x)], rfl, ⟨fun b h => ?_, fun b h => ?_, fun d h d' h' => ?_, .inl fun d h => ?_, by simp⟩, by simp⟩
    · rw [List.mem_singleton.mp h]; exact h1.dp
    · rw [List.mem_singleton.mp h]; exact Nat.le_trans (fl_dR x).2 (by decide)
    · rw [List.mem_singleton.mp h, List.mem_singleton.mp h']; exact alike_dR x x
    · rw [List.mem_singleton.mp h]; exact ⟨_, _, rfl⟩
  | @two x y _ _ _ _ _ o =>
    obtain ⟨v, r, rfl, h1, h2⟩ := hal.cons_inv
    obtain ⟨w, r', rfl, h3, h4⟩ := h2.cons_inv
    have e := h4.nil_inv
    subst e
    refine ⟨[(v, dR x), (w, dR y)], rfl, ⟨fun b hb => ?_, fun b hb => ?_, fun d hd d' hd' => ?_, .inl fun d hd => ?_, by simp⟩, ?_⟩
    · rcases List.mem_cons.mp hb with z | z
      · rw [z]; exact h1.dp
      · rw [List.mem_singleton.mp z]; exact h3.dp
    · rcases List.mem_cons.mp hb with z | z
      · rw [z]; exact Nat.le_trans (fl_dR x).2 (by decide)
      · rw [List.mem_singleton.mp z]; exact Nat.le_trans (fl_dR y).2 (by decide)
    · have f : ∀ d ∈ [((v, dR x) : VD), (w, dR y)].map (·.2), ∃ t, d = dR t := fun d hd => by
        rcases List.mem_cons.mp hd with z | z
        · exact ⟨x, z⟩
        · exact ⟨y, List.mem_singleton.mp z⟩
      obtain ⟨t, rfl⟩ := f d hd
      obtain ⟨t', rfl⟩ := f d' hd'
      exact alike_dR t t'
    · rcases List.mem_cons.mp hd with z | z
      · rw [z]; exact ⟨_, _, rfl⟩
      · rw [List.mem_singleton.mp z]; exact ⟨_, _, rfl⟩
    · rw [ms2]
      have e : leD (v, dR x) (w, dR y) = !PySem.W.dataLt (dR y) (dR x) := rfl
      have e2 : PySem.W.dataLt (dR y) (dR x) = false := o
      rw [e, e2]
      rfl
end Lh
set_option Elab.async false
set_option linter.all false
set_option maxRecDepth 100000
set_option maxHeartbeats 4000000
/-! The law's test of what is told. -/
namespace Lh
open PySem PySem.Spec PyProof.Rows L2
def dTo : Option (List Tri) → PyData
  | none => .none
  | some l => .tuple (l.map dR)
theorem eqv_dTo (r : Option (List Tri)) : PyData.eqv (dTo r) (.tuple []) = decide (r = some []) := by
  cases r with
  | none => exact eqv_nilT2 []
  | some l =>
    show PyData.eqv (.tuple (l.map dR)) (.tuple []) = _
    rw [eqv_nilT]
    cases l <;> simp
theorem told_dp {K : PySem.W.Frag} {H : Hp} {v : V} {r : Option (List Tri)} (h : Told H v r) : Dp K H v (dTo r) := by
  cases r with
  | none =>
    have h : v = .non := h
    subst h
    exact .non
  | some l =>
    obtain ⟨a, xs, rfl, e, al⟩ := h
    exact .tup (sqT e) (dp_all (enc := dR) (fun v x r => TR.dp r) al)
theorem fl_dTo (r : Option (List Tri)) : Fl 2 (dTo r) := by
  cases r with
  | none => exact ⟨by simp [dTo, PyData.canLay0], by simp [dTo, PyData.depth]⟩
  | some l => exact fl_tup (fl_map fl_dR l)
theorem told_kp {H H' : Hp} {v : V} {r : Option (List Tri)} (k : Kp H H') (h : Told H v r) : Told H' v r := by
  cases r with
  | none => exact h
  | some l => exact MD.kp k h
theorem eqv_dR (x y : Tri) : PyData.eqv (dR x) (dR y) = true ↔ x = y := by
  rw [eqv_dI]
  refine ⟨fun e => ?_, fun e => by rw [e]⟩
  obtain ⟨x1, x2, x3⟩ := x
  obtain ⟨y1, y2, y3⟩ := y
  injection e with e1 e
  injection e with e2 e
  injection e with e3 e
  simp only at e1 e2 e3
  rw [e1, e2, e3]
theorem eqv_self (l : List Tri) : PyData.eqv (.list (l.map dR)) (.list (l.map dR)) = true := by
  rw [PyData.eqv]
  exact (eqv_all (enc := dR) eqv_dR l l).mpr rfl
theorem cut_mem {xs : List V} {lo hi : Option Int} {x : V} (h : x ∈ cutV xs lo hi) : x ∈ xs := List.mem_of_mem_drop (List.mem_of_mem_take h)
theorem all2_rev {α β : Type} {R : α → β → Prop} : ∀ {xs : List α} {ys : List β}, All2 R xs ys → All2 R xs.reverse ys.reverse
  | xs, [], h => by
    rw [h.nil_inv]
    exact .nil
  | xs, y :: ys, h => by
    obtain ⟨x, r, rfl, h1, h2⟩ := h.cons_inv
    rw [List.reverse_cons, List.reverse_cons]
    exact (all2_rev h2).snoc h1
def sp_law_right (K : PySem.W.Frag) : Sp := fun vs H Q _ => ∃ x0 x1 x2 x3, vs = [x0, x1, x2, x3] ∧ ∃ (pe : Addr) (p : Pd) (a b : Nat) (s : Sit), x0 = .ref pe ∧ PN H pe ∧ PL K H x1 p ∧ NW K H x2 a b ∧ ST H x3 s ∧ SitOk p (a + b) s ∧ ∀ H', Sbut pe H H' → PN H' pe → Q (.bl true) H'
theorem ok_law_right {P : Program} {w : World} {K : PySem.W.Frag} {mg : Str → Option Value} {base : Heap} (T : Tx K mg) : Fn P w K mg base 11 (He.ga K "_law_right") (sp_law_right K) := by
  obtain ⟨fd, F⟩ := T.d_law_right
  have hb : Binds K fd ["_law_pen_here", "_law_made_here", "_law_heard", "_law_situation"] [] := F.bindsN fun _ _ _ _ _ _ us hl => match us, hl with | [_, _, _, _], _ => rfl
  refine fn_def F sc_law_right hb (fun vs H Q E h => by obtain ⟨_, _, _, _, rfl, _⟩ := h; rfl) fun cdv A outer s H vs Q E hr h => ⟨_, PSs.nox (pss_cons (ps_set (i := 4) sc_law_right.nd rfl (by first | exact Or.inl rfl | exact Or.inr rfl) (ce_call (ok_mend (P := P) (w := w) T) (hr.mono (by decide)) rfl T.g_mend (pa_cons (pv 1) (pa_cons (pv 2) (pa_cons (pv 3) pa_nil)))))
      (pss_cons (ps_if (pt_cmpR op_ne (pe_cmpR (kx_eqD (K := K) hr.units) (pv 4) (ce_tup pa_nil) (nomark _)) (ce_call (ok_keeps (P := P) (w := w) T) (hr.mono (by decide)) rfl T.g_keeps (pa_cons (pv 1) (pa_cons (pv 2) (pa_cons (pv 3) pa_nil)))) (nomark _)) (pss_one (ps_ret pe_bl)) pss_nil)
      (pss_cons (ps_if (pt_cmpR op_isN (pv 4) pe_non (nomark _)) (pss_cons (cs_lc .l (j := 5) rfl sc_law_right.nd rfl rfl (sw_true rfl rfl rfl (by decide +kernel)) (ce_call (ok_law_every (P := P) (w := w) T) (hr.mono (by decide)) rfl T.g_law_every (pa_cons (ce_prop (pv 1) T.pl_moves (ok_Plant_moves T).run (hr.mono (by decide))) pa_nil)) (blkOk_by (own := [("_law_one", 6)]) (N := n_law_right) (sc := defScope s_law_right) (by decide +kernel)) (fun _ _ _ _ _ => pg_name (i := 6) sc_law_right.nd rfl (Or.inl rfl)) (fun _ _ _ _ _ => (pts_one (pt_cmpR op_gt (pe_callB (cl_len (K := K)) rfl T.b_len boot_len (pa_cons (ce_inst (pv 1) T.co_ (ok_Plant_call T) (hr.mono (by decide)) (pa_cons (pe_ix (kx_ix_tup (K := K)) (pv 6) pe_int (fun _ _ => rfl)) (pa_cons (pe_ix (kx_ix_tup (K := K)) (pv 6) pe_int (fun _ _ => rfl)) pa_nil))) pa_nil)) pe_int (nomark _)))) (fun _ _ _ _ _ => (pv 6)))
      (pss_one (ps_ret (pe_cmpR (kx_eqD (K := K) hr.units) (kx_lc (K := K) (ce_lc .l rfl sc_law_right.nd (pv 5) (blkOk_by (own := [("_law_one", 6)]) (N := n_law_right) (sc := defScope s_law_right) (by decide +kernel)) (fun _ _ _ _ _ => pg_name (i := 6) sc_law_right.nd rfl (Or.inl rfl)) (fun _ _ _ _ _ => (pts_one (pt_val (ce_call (ok_shows_mend (P := P) (w := w) T) (hr.mono (by decide)) rfl T.g_shows_mend (pa_cons (pv 1) (pa_cons (pv 2) (pa_cons (pv 3) (pa_cons (ce_tup (pa_cons (pv 6) pa_nil)) pa_nil)))))))) (fun _ _ _ _ _ => pe_int))) (ce_lst pa_nil) (nomark _))))) pss_nil)
      (pss_cons (ps_set (i := 7) sc_law_right.nd rfl (by first | exact Or.inl rfl | exact Or.inr rfl) (ce_call (ok_law_without (P := P) (w := w) T) (hr.mono (by decide)) rfl T.g_law_without (pa_cons (pv 1) (pa_cons (pv 4) pa_nil))))
      (pss_cons (ps_if (PW.pt (pw_or (pt_not (pt_val (ce_call (ok_keeps (P := P) (w := w) T) (hr.mono (by decide)) rfl T.g_keeps (pa_cons (pv 7) (pa_cons (pv 2) (pa_cons (pv 3) pa_nil)))))) (pw_or (pt_cmpR (kx_neD (K := K) hr.units) (ce_call (ok_mend (P := P) (w := w) T) (hr.mono (by decide)) rfl T.g_mend (pa_cons (pv 7) (pa_cons (pv 2) (pa_cons (pv 3) pa_nil)))) (ce_tup pa_nil) (nomark _)) (pw_or1 (pt_cmpR (kx_neD (K := K) hr.units) (pe_callTy (kx_list (K := K)) rfl T.b_list boot_list (pa_cons (pv 4) pa_nil)) (pe_callB (cr_sortedD hr.units .t) rfl T.b_sorted boot_sorted (pa_cons (pv 4) pa_nil)) (nomark _)))))) (pss_one (ps_ret pe_bl)) pss_nil)
      (pss_cons (ps_for PassesOwn.never rfl (pi_tup (pv 4)) (pg_name (i := 6) sc_law_right.nd rfl (by first | exact Or.inl rfl | exact Or.inr rfl)) (pss_cons (ps_set (i := 8) sc_law_right.nd rfl (by first | exact Or.inl rfl | exact Or.inr rfl) (pe_callTy (kx_tuple (K := K)) rfl T.b_tuple boot_tuple (pa_cons (kx_lc (K := K) (ce_lc .t rfl sc_law_right.nd (pv 4) (blkOk_by (own := [("_law_own", 9)]) (N := n_law_right) (sc := defScope s_law_right) (by decide +kernel)) (fun _ _ _ _ _ => pg_name (i := 9) sc_law_right.nd rfl (Or.inl rfl)) (fun _ _ _ _ _ => (pts_one (pt_cmpR (kx_neD (K := K) hr.units) (pv 9) (pv 6) (nomark _)))) (fun _ _ _ _ _ => (pv 9)))) pa_nil)))
      (pss_one (ps_if (PW.pt (pw_or (pt_val (ce_call (ok_keeps (P := P) (w := w) T) (hr.mono (by decide)) rfl T.g_keeps (pa_cons (ce_call (ok_law_without (P := P) (w := w) T) (hr.mono (by decide)) rfl T.g_law_without (pa_cons (pv 1) (pa_cons (pv 8) pa_nil))) (pa_cons (pv 2) (pa_cons (pv 3) pa_nil))))) (pw_or1 (pt_val (ce_call (ok_shows_mend (P := P) (w := w) T) (hr.mono (by decide)) rfl T.g_shows_mend (pa_cons (pv 1) (pa_cons (pv 2) (pa_cons (pv 3) (pa_cons (pv 8) pa_nil))))))))) (pss_one (ps_ret pe_bl)) pss_nil))))
      (pss_cons (ps_for PassesOwn.never rfl (pi_list (pe_slice (kx_slL (K := K)) (ce_call (ok_law_mixed (P := P) (w := w) T) (hr.mono (by decide)) rfl T.g_law_mixed (pa_cons (pv 0) (pa_cons (ce_call (ok_law_every (P := P) (w := w) T) (hr.mono (by decide)) rfl T.g_law_every (pa_cons (ce_prop (pv 7) T.pl_moves (ok_Plant_moves T).run (hr.mono (by decide))) pa_nil)) pa_nil))) po_none (po_some pe_int))) (pg_name (i := 6) sc_law_right.nd rfl (by first | exact Or.inl rfl | exact Or.inr rfl)) (pss_one (ps_if (PW.pt (pw_and (pt_cmpR op_gt (pe_callB (cl_len (K := K)) rfl T.b_len boot_len (pa_cons (ce_inst (pv 7) T.co_ (ok_Plant_call T) (hr.mono (by decide)) (pa_cons (pe_ix (kx_ix_tup (K := K)) (pv 6) pe_int (fun _ _ => rfl)) (pa_cons (pe_ix (kx_ix_tup (K := K)) (pv 6) pe_int (fun _ _ => rfl)) pa_nil))) pa_nil)) pe_int (nomark _)) (pw_and1 (pt_cmpR op_notBl (ce_call (ok_shows_mend (P := P) (w := w) T) (hr.mono (by decide)) rfl T.g_shows_mend (pa_cons (pv 1) (pa_cons (pv 2) (pa_cons (pv 3) (pa_cons (pe_op (kx_cat (K := K)) (ce_tup (pa_cons (pv 6) pa_nil)) (ce_revT (pv 4))) pa_nil))))) pe_bl (nomark _))))) (pss_one (ps_ret pe_bl)) pss_nil)))
      (pss_one (ps_ret (pe_cmpR op_isBl (ce_call (ok_shows_mend (P := P) (w := w) T) (hr.mono (by decide)) rfl T.g_shows_mend (pa_cons (pv 1) (pa_cons (pv 2) (pa_cons (pv 3) (pa_cons (pv 4) pa_nil))))) pe_bl (nomark _))))))))))), ?_⟩
  obtain ⟨x0, x1, x2, x3, rfl, h⟩ := h
  obtain ⟨pe, p, a, b, s, rfl, hpn, hp, hn, hs, ok, q⟩ := h
  have pok := hp.ge
  obtain ⟨pa, pdx, pfs, rfl, hpa⟩ := hp.at_
  refine ⟨_, rfl, _, rfl, _, rfl, _, _, _, rfl, p, a, b, s, hp, hn, hs, ok, fun tv H1 r hS1 htold hmr => ?_⟩
  refine ⟨_, rfl, by simp, fun e H2 he hS2 he2 => ⟨dTo r, .tuple [], told_dp (told_kp (Kp.of hS2) htold), .tup (sqT he2) .nil, (fl_dTo r).sh (by decide), (fl_tup (n := 0) (by simp)).sh (by decide), ?_⟩⟩
  have hS12 := hS1.trans hS2
  have k12 := Kp.of hS12
  refine ⟨_, rfl, _, rfl, _, rfl, _, _, _, rfl, p, a, b, s, hp.kp k12, hn.kp k12, hs.kp k12, ok, fun bb H3 hS3 hbb => ⟨rfl, _, rfl, ?_⟩⟩
  have ebb : PyData.eqv (dTo r) (.tuple []) = bb := by
    rw [eqv_dTo]
    have := hbb.trans (mr_kept hmr)
    cases bb with
    | true => exact decide_eq_true (this.mp rfl)
    | false => exact decide_eq_false fun z => nomatch this.mpr z
  rw [ebb, show (!decide (V.bl bb = V.bl bb)) = false by simp]
  refine iteF ?_
  have hS13 := hS12.trans hS3
  have k13 := Kp.of hS13
  have hp3 := hp.kp k13
  have hn3 := hn.kp k13
  have hs3 := hs.kp k13
  have hpa3 := hS13 _ _ hpa
  have told3 := told_kp (Kp.of (hS2.trans hS3)) htold
  cases r with
  | none =>
    have ht : tv = .non := htold
    subst ht
    have ns : NoSingle p a b s := by
      cases hmr with
      | no _ ns _ => exact ns
    refine ⟨_, rfl, rfl, _, rfl, ?_⟩
    rw [decide_eq_true rfl]
    refine iteT ?_
    refine ⟨_, rfl, pa, _, pdx, pfs, rfl, rfl, hpa3, _, rfl, p, hp3, fun mvv hm => ⟨_, rfl, p.mv, p.m, hm, pok.wf, fun D H4 acc ts hS4 hD hD4 hts htl htm => ?_⟩⟩
    have al := hts.1
    have k34 := Kp.of hS4
    refine ⟨D, acc, rfl, sqL hD4, by omega, by simp, fun k acc' H' => ∃ us : List Tri, All2 (TR H') acc' us ∧ us.length ≤ k ∧ ∀ t ∈ us, CanP p t, ⟨[], .nil, by simp, fun _ h => nomatch h⟩, fun k acc' H5 H6 kp ⟨us, u1, u2⟩ => ⟨us, u1.mono fun _ _ z => z.kp kp, u2⟩, fun k x H5 acc' hx ⟨us, u1, u2, u3⟩ hS5 => ?_, fun D2 acc2 H5 hD2 hS5 hD25 ⟨us, u1, u2, u3⟩ => ?_⟩
    · obtain ⟨t, ht, htr⟩ := hts.get hx
      have hm := htm t (List.mem_of_getElem? ht)
      have htr5 := htr.kp (Kp.of hS5)
      obtain ⟨tb, rfl, htb⟩ := id htr5
      have hS35 := hS4.trans hS5
      refine mTT.mk ⟨_, rfl, pa, rfl, _, rfl, _, _, _, _, rfl, rfl, sqT htb, at0, _, rfl, _, _, _, _, rfl, rfl, sqT htb, at1, ⟨pdx, pfs, hS35 _ _ hpa3⟩, _, _, _, rfl, p, t.1, t.2.1, hp3.kp (Kp.of hS35), rfl, rfl, hm.a0, hm.a1, hm.b0, hm.b1, fun v hv => ?_⟩
      obtain ⟨cc, rfl, hcc⟩ := hv
      refine ⟨_, (LH.ans p.mv t.1 t.2.1).length, rfl, .inr ⟨_, sqT hcc, by simp⟩, ((LH.ans p.mv t.1 t.2.1).length : Int), 1, rfl, rfl, _, rfl, ?_⟩
      by_cases hl : (1 : Int) < (LH.ans p.mv t.1 t.2.1).length
      · rw [decide_eq_true hl]
        refine iteT (mTE.mk ⟨_, rfl, fun _ _ e => e, us ++ [t], u1.snoc htr5, by simp; omega, fun u hu => ?_⟩)
        rcases List.mem_append.mp hu with z | z
        · exact u3 u z
        · rw [List.mem_singleton.mp z]
          exact ⟨hm.has.1, hm.mm, by omega⟩
      · rw [decide_eq_false hl]
        exact iteF ⟨fun _ _ e => e, us, u1, by omega, u3⟩
    · have u1l := u1.1
      have hS35 := hS4.trans hS5
      refine ⟨_, rfl, D2, acc2, rfl, sqL hD25, by omega, by simp, fun k acc' _ => acc' = [], rfl, fun _ _ _ _ _ z => z, fun k x H6 acc' hx hR hS6 => ?_, fun D3 acc3 H6 hD3 hS6 hD36 hR => ?_⟩
      · obtain ⟨t, ht, htr⟩ := u1.get hx
        have hc := u3 t (List.mem_of_getElem? ht)
        have k36 := Kp.of (hS35.trans hS6)
        refine mTT.mk ⟨_, rfl, _, rfl, _, rfl, _, rfl, by simp, fun e7 H7 he7 hS7 he77 => ?_⟩
        have k37 := k36.trans (Kp.of hS7)
        refine ⟨_, _, _, _, rfl, p, a, b, s, [t], hp3.kp k37, hn3.kp k37, hs3.kp k37, ok, ⟨e7, _, rfl, he77, .cons (htr.kp (Kp.of (hS6.trans hS7))) .nil⟩, ⟨hc, True.intro⟩, fun bb H8 hS8 hbb => ⟨bb, rfl, ?_⟩⟩
        have eb : bb = false := Bool.eq_false_iff.mpr fun z => ns t hc (hbb.mp z)
        subst eb
        exact iteF ⟨hS7.trans hS8, hR⟩
      · have hR : acc3 = [] := hR
        subst hR
        refine ⟨by simp, fun e7 H7 he7 hS7 he77 => ⟨.list [], .list [], .lst (sqL (hS7 _ _ hD36)) .nil, .lst (sqL he77) .nil, (fl_lst (n := 0) (by simp)).sh (by decide), (fl_lst (n := 0) (by simp)).sh (by decide), ?_⟩⟩
        rw [eqv_nilL]
        have hS17 := hS13.trans (hS35.trans (hS6.trans hS7))
        exact q H7 (Sbut.of hS17) (hpn.same hS17)
  | some l =>
    obtain ⟨la, xs, rfl, hla, hal⟩ := id told3
    obtain ⟨hch, hk, hl2⟩ := mr_chain hmr
    have al1 := hal.1
    have lsit : SitOk (remAll p l) (a + b) s := remAll_sit ok
    refine ⟨_, rfl, rfl, _, rfl, ?_⟩
    rw [decide_eq_false (fun z => nomatch z)]
    refine iteF ?_
    refine ⟨_, rfl, _, rfl, _, _, rfl, p, l, hp3, told3, hch, fun lv H4 hS4 hlp => ?_⟩
    have lok := hlp.ge
    have k4 := Kp.of hS4
    have hn4 := hn3.kp k4
    have hs4 := hs3.kp k4
    obtain ⟨qa, qdx, qfs, rfl, hqa⟩ := hlp.at_
    refine ⟨_, rfl, _, rfl, _, rfl, _, _, _, rfl, remAll p l, a, b, s, hlp, hn4, hs4, lsit, fun bb H5 hS5 hbb => ⟨bb, rfl, ?_⟩⟩
    have eb : bb = true := hbb.mpr hk
    subst eb
    refine iteF ?_
    have k5 := Kp.of hS5
    refine ⟨_, rfl, _, rfl, _, rfl, _, _, _, rfl, remAll p l, a, b, s, hlp.kp k5, hn4.kp k5, hs4.kp k5, lsit, fun tv2 H6 r2 hS6 ht2 hm2 => ?_⟩
    have er2 := (mr_kept hm2).mp hk
    subst er2
    refine ⟨by simp, fun e2 H7 he2 hS7 he27 => ⟨dTo (some []), .tuple [], told_dp (told_kp (Kp.of hS7) ht2), .tup (sqT he27) .nil, (fl_dTo _).sh (by decide), (fl_tup (n := 0) (by simp)).sh (by decide), _, rfl, ?_⟩⟩
    rw [eqv_dTo, decide_eq_true rfl]
    refine iteF ?_
    have hS37 := hS4.trans (hS5.trans (hS6.trans hS7))
    have hla7 := hS37 _ _ hla
    have hal7 := hal.mono fun _ _ z => TR.kp (Kp.of hS37) z
    refine ⟨_, rfl, la, xs, rfl, .inr (sqT hla7), fun L H8 hL hS8 hL8 => ?_⟩
    have hal8 := hal7.mono fun _ _ z => TR.kp (Kp.of hS8) z
    obtain ⟨bs, hb1, hb2, hb3⟩ := told_srt (K := K) hmr hal8
    refine ⟨_, rfl, la, bs, rfl, by rw [hb1]; exact sqT (hS8 _ _ hla7), hb2, fun p9 H9 hp9 hS9 h9 => ?_⟩
    rw [hb3] at h9
    have hal9 := hal8.mono fun _ _ z => TR.kp (Kp.of hS9) z
    have dpl := dp_all (K := K) (enc := dR) (fun v x r => TR.dp r) hal9
    refine ⟨.list (l.map dR), .list (l.map dR), .lst (sqL (hS9 _ _ hL8)) dpl, .lst (sqL h9) dpl, (fl_lst (fl_map fl_dR l)).sh (by decide), (fl_lst (fl_map fl_dR l)).sh (by decide), _, rfl, ?_⟩
    rw [eqv_self]
    refine iteF ?_
    have hS39 := hS37.trans (hS8.trans hS9)
    have hS19 := hS13.trans hS39
    have hla9 := hS39 _ _ hla
    refine ⟨_, rfl, la, rfl, ⟨xs, sqT hla9⟩, for_tup (xs := xs) (fun k σ H => ∃ z6 z8 z9, σ = [some (.ref pe), some (.ref pa), some x2, some x3, some (.ref la), none, z6, some (.ref qa), z8, z9] ∧ Same H9 H)
      ⟨none, none, none, rfl, fun _ _ e => e⟩ (fun k σ H _ ⟨_, _, _, _, z⟩ => sqT (z _ _ hla9)) (fun k x σ H10 hx ⟨z6, z8, z9, hσ, hS10⟩ => ?_) fun σ H10 ⟨z6, z8, z9, hσ, hS10⟩ => ?_⟩
    · subst hσ
      have hS310 := hS39.trans hS10
      have k310 := Kp.of hS310
      obtain ⟨o, ho, hor⟩ := (hal9.mono fun _ _ z => TR.kp (Kp.of hS10) z).get hx
      obtain ⟨hch', hnk⟩ := rest_bad pok hmr (List.mem_of_getElem? ho)
      refine ⟨_, rfl, la, xs, rfl, sqT (hS10 _ _ hla9), by omega, by simp, fun j acc H => ∃ us : List Tri, All2 (TR H) acc us ∧ us = (l.take j).filter fun t => decide (t ≠ o), ⟨[], .nil, by simp⟩, fun j acc H H' kp ⟨us, u1, u2⟩ => ⟨us, u1.mono fun _ _ z => z.kp kp, u2⟩, fun j y H11 acc hy ⟨us, u1, u2⟩ hS11 => ?_, fun D acc H11 hD hS11 hD11 ⟨us, u1, u2⟩ => ?_⟩
      · obtain ⟨t, ht, htr⟩ := (hal9.mono fun _ _ z => TR.kp (Kp.of (hS10.trans hS11)) z).get hy
        refine mTT.mk ⟨_, rfl, _, rfl, dR t, dR o, htr.dp, (hor.kp (Kp.of hS11)).dp, (fl_dR _).sh (by decide), (fl_dR _).sh (by decide), _, rfl, ?_⟩
        have et := take_succ' ht
        by_cases hto : t = o
        · rw [(eqv_dR t o).mpr hto]
          refine iteF ⟨fun _ _ e => e, us, u1, ?_⟩
          rw [u2, et, List.filter_append]
          simp [hto]
        · rw [Bool.eq_false_iff.mpr fun z => hto ((eqv_dR t o).mp z)]
          refine iteT (mTE.mk ⟨_, rfl, fun _ _ e => e, us ++ [t], u1.snoc htr, ?_⟩)
          rw [u2, et, List.filter_append]
          simp [hto]
      · rw [al1, List.take_length] at u2
        subst u2
        refine ⟨D, acc, rfl, sqL hD11, fun c H12 hc hS12' hc12 => ?_⟩
        have hS312 := hS310.trans (hS11.trans hS12')
        have k312 := Kp.of hS312
        have md12 : MD H12 (.ref c) (l.filter fun t => decide (t ≠ o)) := ⟨c, acc, rfl, hc12, u1.mono fun _ _ z => z.kp (Kp.of hS12')⟩
        refine ⟨_, rfl, _, rfl, _, _, rfl, p, _, hp3.kp k312, md12, hch', fun v1 H13 hS13' hpl => ?_⟩
        have k313 := k312.trans (Kp.of hS13')
        refine ⟨_, rfl, _, rfl, _, _, _, rfl, _, a, b, s, hpl, hn3.kp k313, hs3.kp k313, remAll_sit ok, fun bb H14 hS14 hbb => ⟨bb, rfl, ?_⟩⟩
        have eb : bb = false := Bool.eq_false_iff.mpr fun z => hnk (hbb.mp z)
        subst eb
        refine iteF ?_
        have k314 := k313.trans (Kp.of hS14)
        refine ⟨_, rfl, _, rfl, _, rfl, _, rfl, _, _, _, _, rfl, p, a, b, s, _, hp3.kp k314, hn3.kp k314, hs3.kp k314, ok, md12.kp (Kp.of (hS13'.trans hS14)), hch', fun bb H15 hS15 hbb => ⟨bb, rfl, ?_⟩⟩
        have eb : bb = false := Bool.eq_false_iff.mpr fun z => hnk (hbb.mp z)
        subst eb
        exact iteF ⟨_, _, _, rfl, hS10.trans (hS11.trans (hS12'.trans (hS13'.trans (hS14.trans hS15))))⟩
    · subst hσ
      have hS410 := (hS5.trans (hS6.trans (hS7.trans (hS8.trans hS9)))).trans hS10
      have hS110 := hS19.trans hS10
      have hlp10 := hlp.kp (Kp.of hS410)
      have hqa10 := hS410 _ _ hqa
      have hpn10 := hpn.same hS110
      refine ⟨_, rfl, _, rfl, qa, _, qdx, qfs, rfl, rfl, hqa10, _, rfl, remAll p l, hlp10, fun mvv hm => ⟨_, rfl, (remAll p l).mv, (remAll p l).m, hm, lok.wf, fun D H11 acc ts hS11 hD hD11 hts htl htm => ?_⟩⟩
      have acl := hts.1
      have hpn11 := hpn10.same hS11
      refine ⟨_, _, rfl, pe, D, acc, rfl, hpn11, rfl, hD11, by omega, hpn10.ne hD, fun D2 acc2 H12 s12 hpn12 hD212 hmem => ?_⟩
      have k1112 := hpn11.kp s12
      refine ⟨4, rfl, D2, acc2, rfl, sqL hD212, fun cu H13 hcu hS13' hcu13 => ?_⟩
      have k1013 := (Kp.of hS11).trans (k1112.trans (Kp.of hS13'))
      have s013 : Sbut pe H H13 := ((Sbut.of hS110).trans (Sbut.of hS11)).trans (s12.trans (Sbut.of hS13'))
      have hpn13 := hpn12.same hS13'
      have hlp13 := hlp10.kp k1013
      have k313 := (Kp.of (hS39.trans hS10)).trans k1013
      have hp13 := hp3.kp k313
      have hn13 := hn3.kp k313
      have hs13 := hs3.kp k313
      have hqa13 := k1013 _ _ hqa10 True.intro
      have hla13 := k313 _ _ hla True.intro
      have hal13 := hal.mono fun _ _ z => TR.kp k313 z
      refine ⟨cu, rfl, ⟨_, sqL hcu13⟩, for_list (xs := cutV acc2 none (some 4)) (fun k σ H => ∃ z6 z8 z9, σ = [some (.ref pe), some (.ref pa), some x2, some x3, some (.ref la), none, z6, some (.ref qa), z8, z9] ∧ Same H13 H)
        ⟨_, _, _, rfl, fun _ _ e => e⟩ (fun k σ H _ ⟨_, _, _, _, z⟩ => sqL (z _ _ hcu13)) (fun k x σ H14 hx ⟨z6, z8, z9, hσ, hS14⟩ => ?_) fun σ H14 ⟨z6, z8, z9, hσ, hS14⟩ => ?_⟩
      · subst hσ
        have k14 := Kp.of hS14
        obtain ⟨t, ht, htr⟩ := hts.mem (hmem x (cut_mem (List.mem_of_getElem? hx)))
        have hm := htm t ht
        have htr14 := htr.kp (k1112.trans (Kp.of (hS13'.trans hS14)))
        obtain ⟨tb, rfl, htb⟩ := id htr14
        refine ⟨_, rfl, qa, rfl, _, rfl, _, _, _, _, rfl, rfl, sqT htb, at0, _, rfl, _, _, _, _, rfl, rfl, sqT htb, at1, ⟨qdx, qfs, hS14 _ _ hqa13⟩, _, _, _, rfl, remAll p l, t.1, t.2.1, hlp13.kp k14, rfl, rfl, hm.a0, hm.a1, hm.b0, hm.b1, fun v hv => ?_⟩
        obtain ⟨cc, rfl, hcc⟩ := hv
        refine ⟨_, (LH.ans (remAll p l).mv t.1 t.2.1).length, rfl, .inr ⟨_, sqT hcc, by simp⟩, ((LH.ans (remAll p l).mv t.1 t.2.1).length : Int), 1, rfl, rfl, _, rfl, ?_⟩
        by_cases hl : (1 : Int) < (LH.ans (remAll p l).mv t.1 t.2.1).length
        · rw [decide_eq_true hl]
          have hcan : CanP (remAll p l) t := ⟨hm.has.1, hm.mm, by omega⟩
          obtain ⟨c1, c2⟩ := mixed_ok pok hmr hcan
          refine iteT ⟨_, rfl, _, rfl, _, rfl, _, rfl, by simp, fun e1 H15 he1 hS15 he15 => ?_⟩
          refine ⟨_, rfl, la, xs, rfl, sqT (hS15 _ _ (hS14 _ _ hla13)), fun e2 H16 he2 hS16 he16 => ?_⟩
          refine ⟨e1, e2, _, _, rfl, rfl, hS16 _ _ he15, he16, by simp; omega, fun e3 H17 hS17 he17 => ?_⟩
          have hS1417 := hS15.trans (hS16.trans hS17)
          have k17 := k14.trans (Kp.of hS1417)
          have md17 : MD H17 (.ref e3) (t :: l.reverse) := ⟨e3, _, rfl, he17, .cons (htr14.kp (Kp.of hS1417)) (all2_rev (hal13.mono fun _ _ z => TR.kp k17 z))⟩
          refine ⟨_, _, _, _, rfl, p, a, b, s, _, hp13.kp k17, hn13.kp k17, hs13.kp k17, ok, md17, c1, fun bb H18 hS18 hbb => ⟨_, _, rfl, rfl, _, rfl, ?_⟩⟩
          have eb : bb = true := hbb.mpr c2
          subst eb
          exact iteF ⟨_, _, _, rfl, hS14.trans (hS1417.trans hS18)⟩
        · rw [decide_eq_false hl]
          exact iteF (iteF ⟨_, _, _, rfl, hS14⟩)
      · subst hσ
        have k14 := Kp.of hS14
        refine ⟨_, rfl, _, rfl, _, rfl, _, rfl, _, _, _, _, rfl, p, a, b, s, l, hp13.kp k14, hn13.kp k14, hs13.kp k14, ok, ⟨la, xs, rfl, hS14 _ _ hla13, hal13.mono fun _ _ z => TR.kp k14 z⟩, hch, fun bb H15 hS15 hbb => ⟨_, _, rfl, rfl, ?_⟩⟩
        have eb : bb = true := hbb.mpr hk
        subst eb
        exact q H15 (s013.trans (Sbut.of (hS14.trans hS15))) (hpn13.same (hS14.trans hS15))
end Lh
set_option Elab.async false
set_option linter.all false
set_option maxRecDepth 100000
set_option maxHeartbeats 4000000
/-! The law's test of one answer more. -/
namespace Lh
open PySem PySem.Spec PyProof.Rows L2
def sp_law_more_right (K : PySem.W.Frag) : Sp := fun vs H Q _ => ∃ x0 x1 x2 x3, vs = [x0, x1, x2, x3] ∧ ∃ (pe : Addr) (p : Pd) (a b : Nat) (s : Sit), x0 = .ref pe ∧ PN H pe ∧ PL K H x1 p ∧ NW K H x2 a b ∧ ST H x3 s ∧ SitOk p (a + b) s ∧ ∀ H', Sbut pe H H' → PN H' pe → Q (.bl true) H'
theorem ok_law_more_right {P : Program} {w : World} {K : PySem.W.Frag} {mg : Str → Option Value} {base : Heap} (T : Tx K mg) : Fn P w K mg base 11 (He.ga K "_law_more_right") (sp_law_more_right K) := by
  obtain ⟨fd, F⟩ := T.d_law_more_right
  have hb : Binds K fd ["_law_pen_here", "_law_made_here", "_law_heard", "_law_situation"] [] := F.bindsN fun _ _ _ _ _ _ us hl => match us, hl with | [_, _, _, _], _ => rfl
  refine fn_def F sc_law_more_right hb (fun vs H Q E h => by obtain ⟨_, _, _, _, rfl, _⟩ := h; rfl) fun cdv A outer s H vs Q E hr h => ⟨_, PSs.nox (pss_cons (ps_par (i := 4) (j := 5) (by rfl) sc_law_more_right.nd rfl rfl (by decide) rfl rfl (pa_cons (ce_call (ok_mend (P := P) (w := w) T) (hr.mono (by decide)) rfl T.g_mend (pa_cons (pv 1) (pa_cons (pv 2) (pa_cons (pv 3) pa_nil)))) (pa_cons (ce_prop (pv 1) T.pl_places (ok_Plant_places T).run (hr.mono (by decide))) pa_nil)) (by rfl))
      (pss_cons (ps_set (i := 6) sc_law_more_right.nd rfl (by first | exact Or.inl rfl | exact Or.inr rfl) (ce_tup (pa_cons (ce_call (ok_law_draw (P := P) (w := w) T) (hr.mono (by decide)) rfl T.g_law_draw (pa_cons (pv 0) (pa_cons (pv 5) pa_nil))) (pa_cons (ce_call (ok_law_draw (P := P) (w := w) T) (hr.mono (by decide)) rfl T.g_law_draw (pa_cons (pv 0) (pa_cons (ce_prop (pv 1) T.pl_orders (ok_Plant_orders T).run (hr.mono (by decide))) pa_nil))) (pa_cons (ce_call (ok_law_draw (P := P) (w := w) T) (hr.mono (by decide)) rfl T.g_law_draw (pa_cons (pv 0) (pa_cons (pv 5) pa_nil))) pa_nil)))))
      (pss_cons (ps_if (pt_cmpR (op_ownIn T.m_contains (ok_Plant_contains T).run (hr.mono (by decide))) (pv 6) (pv 1) (by rfl)) (pss_one (ps_ret pe_bl)) pss_nil)
      (pss_cons (ps_set (i := 7) sc_law_more_right.nd rfl (by first | exact Or.inl rfl | exact Or.inr rfl) (ce_call (ok_mend (P := P) (w := w) T) (hr.mono (by decide)) rfl T.g_mend (pa_cons (pe_op (op_own T.oo_add (ok_Plant_add T).run (hr.mono (by decide))) (pv 1) (pv 6)) (pa_cons (pv 2) (pa_cons (pv 3) pa_nil)))))
      (pss_cons (cs_lc .t (j := 8) rfl sc_law_more_right.nd rfl rfl (sw_true rfl rfl rfl (by decide +kernel)) (ce_tup (pa_cons (pv 4) (pa_cons (pv 7) pa_nil))) (blkOk_by (own := [("_law_some", 9)]) (N := n_law_more_right) (sc := defScope s_law_more_right) (by decide +kernel)) (fun _ _ _ _ _ => pg_name (i := 9) sc_law_more_right.nd rfl (Or.inl rfl)) (fun _ _ _ _ _ => pts_nil) (fun _ _ _ _ _ => (pe_ifExp (pt_cmpR op_isN (pv 9) pe_non (nomark _)) pe_int (pe_callB (cl_len (K := K)) rfl T.b_len boot_len (pa_cons (pv 9) pa_nil)))))
      (pss_one (ps_ret (pe_cmpR op_le (pe_ix (kx_ix_list (K := K)) (pv 8) pe_int (fun _ _ => rfl)) (pe_op op_add (pe_ix (kx_ix_list (K := K)) (pv 8) pe_int (fun _ _ => rfl)) pe_int) (nomark _))))))))), ?_⟩
  obtain ⟨x0, x1, x2, x3, rfl, h⟩ := h
  obtain ⟨pe, p, a, b, s, rfl, hpn, hp, hn, hs, ok, q⟩ := h
  have pok := hp.ge
  have n1 := pok.wf.n1
  have n4 := pok.wf.n4
  have m1 := pok.wf.m1
  have m3 := pok.wf.m3
  obtain ⟨pa, pdx, pfs, rfl, hpa⟩ := hp.at_
  refine ⟨_, rfl, _, rfl, _, rfl, _, _, _, rfl, p, a, b, s, hp, hn, hs, ok, fun tv H1 r hS1 htold hmr => ?_⟩
  have hpn1 := hpn.same hS1
  have hp1 := hp.kpS hS1
  refine ⟨_, rfl, pa, _, pdx, pfs, rfl, rfl, hS1 _ _ hpa, _, rfl, p, hp1, _, _, rfl, ?_⟩
  refine ⟨_, rfl, _, rfl, _, _, rfl, pe, p.mv.length, rfl, hpn1, rfl, by omega, by omega, fun i H2 s2 hpn2 hi => ?_⟩
  have k12 := hpn1.kp s2
  refine ⟨_, rfl, _, rfl, pa, _, pdx, pfs, rfl, rfl, k12 _ _ (hS1 _ _ hpa) True.intro, _, rfl, p, hp1.kp k12, _, _, rfl, pe, p.m, rfl, hpn2, rfl, by omega, by omega, fun o H3 s3 hpn3 ho => ?_⟩
  refine ⟨_, rfl, _, rfl, _, _, rfl, pe, p.mv.length, rfl, hpn3, rfl, by omega, by omega, fun c H4 s4 hpn4 hc => ?_⟩
  refine ⟨by simp, fun tt H5 htt hS5 htt5 => ?_⟩
  obtain ⟨t, et⟩ : ∃ t : Tri, t = ((i : Int), (o : Int), (c : Int)) := ⟨_, rfl⟩
  have htr : TR H5 (.ref tt) t := by rw [et]; exact ⟨tt, rfl, htt5⟩
  have hin : InR p t := by rw [et]; exact ⟨by simp, by simp; omega, by simp, by simp; omega, by simp, by simp; omega⟩
  have s05 : Sbut pe H H5 := (((Sbut.of hS1).trans s2).trans (s3.trans s4)).trans (Sbut.of hS5)
  have hpn5 := hpn4.same hS5
  have k15 : Kp H1 H5 := k12.trans ((hpn2.kp s3).trans ((hpn3.kp s4).trans (Kp.of hS5)))
  have hp5 := hp1.kp k15
  have k05 := (Kp.of hS1).trans k15
  have hpa5 := k05 _ _ hpa True.intro
  have told5 := told_kp k15 htold
  by_cases hmem : t.2.2 ∈ LH.ans p.mv t.1 t.2.1
  · exact ⟨_, rfl, _, rfl, pa, pdx, pfs, rfl, hpa5, _, _, rfl, p, t, hp5, htr, hin, true, by rw [decide_eq_true hmem], true, rfl, iteT (q H5 s05 hpn5)⟩
  refine ⟨_, rfl, _, rfl, pa, pdx, pfs, rfl, hpa5, _, _, rfl, p, t, hp5, htr, hin, false, by rw [decide_eq_false hmem], false, rfl, iteF ?_⟩
  refine ⟨_, rfl, _, rfl, pa, pdx, pfs, tt, _, rfl, rfl, hpa5, htt5, _, _, rfl, p, t, hp5, htr, hin, hmem, fun v H6 l' hS6 pm hpl => ?_⟩
  have k06 := k05.trans (Kp.of hS6)
  obtain ⟨hln, hhas⟩ := add_has pok hin pm
  refine ⟨_, rfl, _, rfl, _, _, _, rfl, _, a, b, s, hpl, hn.kp k06, hs.kp k06, ⟨ok.a, by rw [hln]; exact ok.b, ok.r, ok.l⟩, fun tv2 H7 r2 hS7 ht2 hm2 => ?_⟩
  have hcnt := more_ok pok hpl.ge hln rfl rfl (fun z => hmem z.2) hin hhas hmr hm2
  refine ⟨_, rfl, _, rfl, by simp, fun e H8 he hS8 he8 => ?_⟩
  have told8 := told_kp (Kp.of (hS6.trans (hS7.trans hS8))) told5
  have ht28 := told_kp (Kp.of hS8) ht2
  refine ⟨e, _, rfl, sqT he8, by simp, by simp, fun k acc H => acc = (([cnt r, cnt r2] : List Nat).take k).map fun n : Nat => V.int n, rfl, fun _ _ _ _ _ z => z, fun k x H9 acc hx hR hS9 => mTT.mk (yesT (mTE.mk ?_)), fun D acc H9 hD hS9 hD9 hR => ?_⟩
  · obtain ⟨rr, g1, g2⟩ : ∃ rr, Told H9 x rr ∧ ([cnt r, cnt r2] : List Nat)[k]? = some (cnt rr) := by
      rcases k with _ | _ | k
      · cases hx
        exact ⟨r, told_kp (Kp.of hS9) told8, rfl⟩
      · cases hx
        exact ⟨r2, told_kp (Kp.of hS9) ht28, rfl⟩
      · simp at hx
    have hR : acc = _ := hR
    subst hR
    refine ⟨_, rfl, rfl, _, rfl, ?_⟩
    cases rr with
    | none =>
      have g1 : x = .non := g1
      rw [decide_eq_true g1]
      refine iteT ⟨fun _ _ e => e, ?_⟩
      show _ = (([cnt r, cnt r2] : List Nat).take (k + 1)).map fun n : Nat => V.int n
      rw [take_succ' g2, List.map_append]
      rfl
    | some l =>
      obtain ⟨la, xs, rfl, hla, hal⟩ := g1
      rw [decide_eq_false (fun z => nomatch z)]
      refine iteF ⟨_, rfl, _, l.length, rfl, .inr ⟨_, sqT hla, hal.1.symm⟩, fun _ _ e => e, ?_⟩
      show _ = (([cnt r, cnt r2] : List Nat).take (k + 1)).map fun n : Nat => V.int n
      rw [take_succ' g2, List.map_append]
      rfl
  · have hR : acc = [.int (cnt r), .int (cnt r2)] := hR
    subst hR
    refine ⟨_, rfl, D, _, 1, _, rfl, rfl, sqL hD9, at1, _, rfl, D, _, 0, _, rfl, rfl, sqL hD9, at0, _, _, rfl, rfl, _, _, rfl, rfl, ?_⟩
    have hS59 := hS6.trans (hS7.trans (hS8.trans hS9))
    have := q H9 (s05.trans (Sbut.of hS59)) (hpn5.same hS59)
    show Q (V.bl (decide ((cnt r2 : Int) ≤ (cnt r : Int) + 1))) H9
    rw [decide_eq_true (by omega)]
    exact this
end Lh
set_option Elab.async false
set_option linter.all false
set_option maxRecDepth 100000
set_option maxHeartbeats 4000000
/-! The law. -/
namespace Lh
open PySem PySem.Spec PyProof.Rows L2
theorem sbut_new {p : Addr} {H H' : Hp} (s : Sbut p H H') (h : H p = none) : Same H H' := fun b o e => s b o (ne_of_none e h) e
def sp_law (K : PySem.W.Frag) : Sp := fun vs H Q _ => ∃ x0, vs = [x0] ∧ ∃ (a : Addr) (ns : List Int), x0 = .ref a ∧ SqL K H a (ns.map V.int) ∧ ∀ H', Q (.bl true) H'
theorem law_ok {P : Program} {w : World} {K : PySem.W.Frag} {mg : Str → Option Value} {base : Heap} (T : Tx K mg) {fd : FuncData} (F : FunD K "law" "law" (defArgs s_law) (defBody s_law) (defScope s_law) [] [] (He.ga K "law") fd) : FnOk P w K mg base CX0 12 (He.ga K "law") fd ["_law_script"] (sp_law K) := by
  refine F.ok sc_law (fun vs H Q E h => by obtain ⟨_, rfl, _⟩ := h; rfl) fun cdv A outer s H vs Q E hr h => ⟨_, PSs.nox (pss_cons (ps_for PassesOwn.never rfl (pi_range1 rfl T.b_range (pa_cons (pe_callB (call_max2 rfl) rfl T.b_max boot_max (pa_cons pe_int (pa_cons (pe_callB (call_min2 rfl) rfl T.b_min boot_min (pa_cons (pe_callB (cl_len (K := K)) rfl T.b_len boot_len (pa_cons (pv 0) pa_nil)) (pa_cons pe_int pa_nil))) pa_nil))) pa_nil)) (pg_name (i := 1) sc_law.nd rfl (by first | exact Or.inl rfl | exact Or.inr rfl)) (pss_cons (ps_set (i := 2) sc_law.nd rfl (by first | exact Or.inl rfl | exact Or.inr rfl) (ce_call (ok_law_pen (P := P) (w := w) T) (hr.mono (by decide)) rfl T.g_law_pen (pa_cons (ce_call (ok_law_cell_at (P := P) (w := w) T) (hr.mono (by decide)) rfl T.g_law_cell_at (pa_cons (pv 0) (pa_cons (pv 1) pa_nil))) pa_nil)))
      (pss_one (ps_for PassesOwn.never rfl (pi_range1 rfl T.b_range (pa_cons pe_int pa_nil)) (pg_name (i := 3) sc_law.nd rfl (by first | exact Or.inl rfl | exact Or.inr rfl)) (pss_cons (ps_set (i := 4) sc_law.nd rfl (by first | exact Or.inl rfl | exact Or.inr rfl) (ce_call (ok_law_made (P := P) (w := w) T) (hr.mono (by decide)) rfl T.g_law_made (pa_cons (ce_call (ok_law_few (P := P) (w := w) T) (hr.mono (by decide)) rfl T.g_law_few (pa_cons (ce_call (ok_law_bad_parts (P := P) (w := w) T) (hr.mono (by decide)) rfl T.g_law_bad_parts (pa_cons (pv 2) (pa_cons (pe_ix (kx_ix_list (K := K)) (ce_lst (pa_cons pe_int (pa_cons pe_int (pa_cons pe_int (pa_cons pe_int pa_nil))))) (pv 3) (fun _ _ => rfl)) pa_nil))) pa_nil)) pa_nil)))
      (pss_cons (ps_set (i := 5) sc_law.nd rfl (by first | exact Or.inl rfl | exact Or.inr rfl) (ce_call (ok_law_numbers (P := P) (w := w) T) (hr.mono (by decide)) rfl T.g_law_numbers (pa_cons (pv 2) (pa_cons (pe_ix (kx_ix_list (K := K)) (ce_lst (pa_cons pe_int (pa_cons pe_int (pa_cons pe_int (pa_cons pe_int pa_nil))))) (pv 3) (fun _ _ => rfl)) pa_nil))))
      (pss_cons (ps_set (i := 6) sc_law.nd rfl (by first | exact Or.inl rfl | exact Or.inr rfl) (ce_call (ok_law_news (P := P) (w := w) T) (hr.mono (by decide)) rfl T.g_law_news (pa_cons (pe_ix (kx_ix_tup (K := K)) (pv 5) pe_int (fun _ _ => rfl)) (pa_cons (pe_ix (kx_ix_tup (K := K)) (pv 5) pe_int (fun _ _ => rfl)) (pa_cons (pe_op op_mod (pv 3) pe_int) pa_nil)))))
      (pss_cons (ps_set (i := 7) sc_law.nd rfl (by first | exact Or.inl rfl | exact Or.inr rfl) (ce_call (ok_law_some_situation (P := P) (w := w) T) (hr.mono (by decide)) rfl T.g_law_some_situation (pa_cons (pv 2) (pa_cons (ce_prop (pv 4) T.pl_moves (ok_Plant_moves T).run (hr.mono (by decide))) (pa_cons (pe_op op_mul (pe_op op_add (pe_ix (kx_ix_tup (K := K)) (pv 5) pe_int (fun _ _ => rfl)) (pe_ix (kx_ix_tup (K := K)) (pv 5) pe_int (fun _ _ => rfl))) (pe_op op_fdiv (pv 3) pe_int)) pa_nil)))))
      (pss_one (ps_if (PW.pt (pw_or (pt_not (pt_val (ce_call (ok_law_right (P := P) (w := w) T) (hr.mono (by decide)) rfl T.g_law_right (pa_cons (pv 2) (pa_cons (pv 4) (pa_cons (pv 6) (pa_cons (pv 7) pa_nil))))))) (pw_or1 (pt_not (pt_val (ce_call (ok_law_more_right (P := P) (w := w) T) (hr.mono (by decide)) rfl T.g_law_more_right (pa_cons (pv 2) (pa_cons (pv 4) (pa_cons (pv 6) (pa_cons (pv 7) pa_nil)))))))))) (pss_one (ps_ret pe_bl)) pss_nil))))))))))
      (pss_one (ps_ret pe_bl))), ?_⟩
  obtain ⟨x0, rfl, h⟩ := h
  obtain ⟨a, ns, rfl, hs, q⟩ := h
  refine ⟨_, rfl, _, ns.length, rfl, .inl ⟨_, hs, by simp⟩, _, _, rfl, _, _, rfl, _, rfl, by split <;> split <;> omega, by split <;> split <;> omega, for_range (fun k σ H3 => ∃ z1 z2 z3 z4 z5 z6 z7, σ = [some (.ref a), z1, z2, z3, z4, z5, z6, z7] ∧ Same H H3) ⟨_, _, _, _, _, _, _, rfl, fun _ _ e => e⟩ (fun k σ H3 hk ⟨z1, z2, z3, z4, z5, z6, z7, hσ, hS3⟩ => ?_) fun σ H3 ⟨z1, z2, z3, z4, z5, z6, z7, hσ, hS3⟩ => ?_⟩
  · subst hσ
    rw [show (0 : Int) + (k : Int) = (k : Int) by omega]
    refine ⟨_, rfl, _, rfl, _, _, rfl, a, ns, k, rfl, hS3.seq hs, rfl, fun n => ⟨_, rfl, n, rfl, fun pe H4 hS4 hpe hpn4 => ?_⟩⟩
    have hpe0 : H pe = none := none_back hS3 hpe
    have hS04 := hS3.trans hS4
    refine ⟨4, rfl, by decide, by decide, for_range (fun lap σ H5 => ∃ z3 z4 z5 z6 z7, σ = [some (.ref a), some (.int k), some (.ref pe), z3, z4, z5, z6, z7] ∧ Sbut pe H4 H5 ∧ PN H5 pe) ⟨_, _, _, _, _, rfl, Sbut.refl _ _, hpn4⟩ (fun lap σ H5 hlap ⟨z3, z4, z5, z6, z7, hσ, s5, hpn5⟩ => ?_) fun σ H5 ⟨z3, z4, z5, z6, z7, hσ, s5, hpn5⟩ => ?_⟩
    · subst hσ
      have hlap : lap < 4 := hlap
      rw [show (0 : Int) + (lap : Int) = (lap : Int) by omega]
      obtain ⟨m, hm, m0, m4⟩ : ∃ m : Nat, ([.int 3, .int 4, .int 4, .int 2] : List V)[lap]? = some (.int m) ∧ 0 < m ∧ m ≤ 4 := by
        rcases lap with _ | _ | _ | _ | lap
        · exact ⟨3, rfl, by decide, by decide⟩
        · exact ⟨4, rfl, by decide, by decide⟩
        · exact ⟨4, rfl, by decide, by decide⟩
        · exact ⟨2, rfl, by decide, by decide⟩
        · omega
      obtain ⟨m2, hm2, m22⟩ : ∃ m : Nat, ([.int 1, .int 1, .int 2, .int 2] : List V)[lap]? = some (.int m) ∧ m ≤ 2 := by
        rcases lap with _ | _ | _ | _ | lap
        · exact ⟨1, rfl, by decide⟩
        · exact ⟨1, rfl, by decide⟩
        · exact ⟨2, rfl, by decide⟩
        · exact ⟨2, rfl, by decide⟩
        · omega
      refine ⟨_, rfl, by simp, fun l1 H6 hl1 hS6 hl16 => ?_⟩
      have hpn6 := hpn5.same hS6
      refine ⟨_, rfl, l1, _, (lap : Int), .int m, rfl, rfl, sqL hl16, atI_nat hm, _, _, rfl, pe, m, rfl, hpn6, rfl, m0, m4, fun v H7 p s7 hpn7 hpt => ⟨_, rfl, p, hpt, fun v2 p2 H8 hS8 hpt2 => ?_⟩⟩
      have hpn8 := hpn7.same hS8
      obtain ⟨t, mm, gb, gg, rfl, ht, hmt, hib, hig, ok⟩ := hpt2
      refine ⟨_, rfl, t, mm, gb, gg, p2, rfl, ht, hmt, hib, hig, ok, fun mdv H9 hS9 hpl => ?_⟩
      have hpn9 := hpn8.same hS9
      have s9 : Sbut pe H4 H9 := ((s5.trans (Sbut.of hS6)).trans s7).trans (Sbut.of (hS8.trans hS9))
      obtain ⟨qa, qdx, qfs, rfl, hqa⟩ := hpl.at_
      refine ⟨_, rfl, by simp, fun l2 H10 hl2 hS10 hl210 => ?_⟩
      have hpn10 := hpn9.same hS10
      refine ⟨_, rfl, l2, _, (lap : Int), .int m2, rfl, rfl, sqL hl210, atI_nat hm2, _, _, rfl, pe, m2, rfl, hpn10, rfl, by omega, fun nt H11 x y s11 hpn11 hnt hxy => ?_⟩
      have k911 : Kp H9 H11 := (Kp.of hS10).trans (hpn10.kp s11)
      refine ⟨_, rfl, nt, _, 0, _, rfl, rfl, sqT hnt, at0, _, rfl, nt, _, 1, _, rfl, rfl, sqT hnt, at1, _, rfl, (lap : Int), 2, rfl, rfl, (by show (0 : Int) < 2; decide), _, _, _, rfl, x, y, _, rfl, rfl, rfl, by omega, fun hv H12 hS12 hnw => ?_⟩
      have hpn12 := hpn11.same hS12
      have k912 := k911.trans (Kp.of hS12)
      have hpl12 := hpl.kp k912
      have hnt12 := hS12 _ _ hnt
      have hle : (x + y) * (lap / 2) ≤ x + y := by
        have : lap / 2 ≤ 1 := by omega
        calc (x + y) * (lap / 2) ≤ (x + y) * 1 := Nat.mul_le_mul_left _ this
          _ = x + y := Nat.mul_one _
      refine ⟨_, rfl, _, rfl, qa, _, qdx, qfs, rfl, rfl, k912 _ _ hqa True.intro, _, rfl, p2, hpl12, fun mvv hmv => ?_⟩
      refine ⟨_, rfl, nt, _, 0, _, rfl, rfl, sqT hnt12, at0, _, rfl, nt, _, 1, _, rfl, rfl, sqT hnt12, at1, _, _, rfl, rfl, _, rfl, (lap : Int), 2, rfl, rfl, ⟨by decide, by decide⟩, _, _, rfl, rfl, .inl ⟨by omega, by omega⟩, _, _, _, rfl, pe, p2.mv, p2.m, (x + y) * (lap / 2), rfl, hpn12, hmv, hpl.ge.wf, ?_, by omega, fun sv H13 s s13 hpn13 hst hsok => ?_⟩
      · congr 1
      have sok : SitOk p2 (x + y) s := let z := hsok p2 rfl rfl; ⟨z.a, z.b, z.r, Nat.le_trans z.l hle⟩
      have k1213 := hpn12.kp s13
      have s413 : Sbut pe H4 H13 := (s9.trans (Sbut.of hS10)).trans (s11.trans ((Sbut.of hS12).trans s13))
      refine ⟨_, rfl, _, rfl, _, rfl, _, rfl, _, _, _, _, rfl, pe, p2, x, y, s, rfl, hpn13, hpl12.kp k1213, hnw.kp k1213, hst, sok, fun H14 s14 hpn14 => ⟨true, rfl, iteF ?_⟩⟩
      have k1314 := hpn13.kp s14
      have k1214 := k1213.trans k1314
      refine ⟨_, rfl, _, rfl, _, rfl, _, rfl, _, _, _, _, rfl, pe, p2, x, y, s, rfl, hpn14, hpl12.kp k1214, hnw.kp k1214, hst.kp k1314, sok, fun H15 s15 hpn15 => ⟨true, rfl, iteF ?_⟩⟩
      exact ⟨_, _, _, _, _, rfl, s413.trans (s14.trans s15), hpn15⟩
    · subst hσ
      exact ⟨_, _, _, _, _, _, _, rfl, hS3.trans (sbut_new ((Sbut.of hS4).trans s5) hpe)⟩
  · subst hσ
    exact q H3
end Lh
set_option Elab.async false
set_option linter.all false
set_option maxRecDepth 100000
set_option maxHeartbeats 0
open PySem PySem.W PySem.Calls PyProof.Rows
theorem PySem.Challenge.cw_latehelm_k44_whole_mends_put_to_work_holds : PySem.Challenge.rw_latehelm_k44_whole_mends_put_to_work.Holds := by
  w_on; o_law
  refine HandSHeadRun.head_any (r := OpenLaw.row PySem.Challenge.rw_latehelm_k44_whole_mends_put_to_work) (q := LhHead.qv) (H := LhHead.hk) (ob := LhHead.ob) (M := 20000) (loose := LhHead.loose) (d := HandSHeadRun.topDef (OpenLaw.row PySem.Challenge.rw_latehelm_k44_whole_mends_put_to_work).prog 92) (kwd := []) LhHead.ob_eq
    (by kernel_rfl) (fun s => by kernel_rfl) LhHead.run (by kernel_rfl) (by kernel_rfl) (by kernel_rfl) (by rfl) (by first | assumption | decide +kernel) (by decide +kernel) ⟨rfl, rfl, rfl, rfl, rfl, by decide +kernel⟩ ?hw ?hc
  case hw => w_witness2
  case hc =>
    refine L2.walk_ofE (l := PySem.Challenge.rw_latehelm_k44_whole_mends_put_to_work) (n := 63) (k := 12) (x := "_law_script") (CX := L2.CX0) rfl (by decide) (by kernel_rfl) ⟨rfl, by decide, by decide⟩ ?F (fun _ _ _ _ z => z)
    intro w mg fa h Y G hmg0
    obtain ⟨K, KX, c⟩ := Y
    have hmg : mg ("law" : PySem.Str) = some (.ref fa) := by
      have e : (HandSHeadRun.topDef (OpenLaw.row PySem.Challenge.rw_latehelm_k44_whole_mends_put_to_work).prog 92).name = ("law" : PySem.Str) := by kernel_rfl
      rw [← e]
      exact hmg0
    have T : Lh.Tx K mg := ⟨c, h, KX, G⟩
    have e := hmg.symm.trans T.g_law
    cases e
    obtain ⟨fd, F⟩ := T.d_law
    have b := L2.FunD.bindsA (ps := ["_law_script"]) F fun _ _ _ _ _ _ us hl => match us, hl with | [_], _ => rfl
    refine ⟨K, fd, Lh.sp_law K, KX, fun s v => b s [v] rfl, fun H a ns hl _ hS => ⟨_, rfl, a, ns, rfl, hS, fun _ => rfl⟩, fun base _ _ => ?_⟩
    exact Lh.law_ok T F
