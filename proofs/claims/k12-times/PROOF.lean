import PyProof.Rows.All
import Wide.All
import OpenK.AllK
import Wide.FinOn
import KE.KStateDown
import HandS.ForMost
import HandS.ExcCtx
import HandS.HotCalls
import HandS.TupAny
import HandS.TupMul
import HandS.Wide
import HandS.Deep
import HandS.IsInst
import HandS.CallSlots
import HandS.Zip
import HandS.Lambda
import PyProof.MaxThree
import KE.GoesEnum
import KE.GoesMore
import HandS.Hot
import HandS.ExcIs
import HandS.HeadHook2
import HandS.HeadHook4
import HandS.HeadWalk
import HandS.Head2
import PySem.Challenge.RW_handedround_k12_whole_times_as_sums_alon
import Lean
set_option Elab.async false
set_option linter.all false
set_option maxRecDepth 100000
set_option maxHeartbeats 0
/-! The data layer: values as data, a store of what changes, expressions as functions. -/
namespace Pd
open PySem PySem.Spec PyProof.Rows L2
/-- a value as data; ref n: the n-th thing of the store; gl x: what the module's name x stands for -/
inductive D where
  | non | bl (b : Bool) | int (i : Int) | str (s : Str) | tup (l : List D) | ref (n : Nat) | gl (x : Str) | ty (n : String) | exn (a : Addr) (x : Str)
/-- a thing that may change -/
inductive MO where
  | lst (l : List D) | fz (l : List D) | ins (C : Str) (fs : List (Str × D)) | any
abbrev Mem := List MO
abbrev DEnv := List (Option D)
structure Exn where
  cls : Str
  fs : List (Str × D)
inductive ResE where
  | ok (d : D) (M : Mem) | exc (x : Exn) (M : Mem) | bad
inductive ResS where
  | nx (δ : DEnv) (M : Mem) | rt (d : D) (M : Mem) | bk (δ : DEnv) (M : Mem) | ct (δ : DEnv) (M : Mem) | exc (x : Exn) (δ : DEnv) (M : Mem) | bad
abbrev DE := DEnv → Mem → ResE
abbrev DS := DEnv → Mem → ResS
abbrev Fn := List D → Mem → ResE
abbrev OV := Option (D × Mem)
def ofO : OV → ResE
  | some p => .ok p.1 p.2
  | none => .bad
def ResE.bind : ResE → (D → Mem → ResE) → ResE
  | .ok d M, k => k d M
  | .exc x M, _ => .exc x M
  | .bad, _ => .bad
abbrev St := L2.St
/-- the tables of the makers of lambdas -/
structure TB where
  tabs : List (Addr × Str)
/-- what is fixed through a law -/
structure RC where
  K : PySem.W.Frag
  mg : Str → Option Value
  T : TB
abbrev rc (T : TB) (X : Cx) : RC := ⟨X.K, X.mg, T⟩
/-- a world: where the things of the store stand, the store, the heap -/
structure Wd where
  ρ : Nat → Addr
  M : Mem
  H : Hp
  cp : Addr → Str → Prop
/-- what never changes -/
def Fr (H H' : Hp) : Prop := (∀ a xs, H a = some (.tup xs) → H' a = some (.tup xs)) ∧ ∀ a o u, H a = some (.frz o u) → H' a = some (.frz o u)
theorem Fr.refl (H : Hp) : Fr H H := ⟨fun _ _ h => h, fun _ _ _ h => h⟩
theorem Fr.trans {H H1 H2 : Hp} (a : Fr H H1) (b : Fr H1 H2) : Fr H H2 := ⟨fun c xs h => b.1 c xs (a.1 c xs h), fun c o u h => b.2 c o u (a.2 c o u h)⟩
theorem Fr.new {H : Hp} {p : Addr} {o : HO} (h : H p = none) : Fr H (upd H p o) :=
  ⟨fun a xs q => by rw [upd_ne (ne_of_none q h)]; exact q, fun a o' u q => by rw [upd_ne (ne_of_none q h)]; exact q⟩
theorem Fr.set {H : Hp} {p : Addr} {o u : HO} (h : H p = some o) (m : Mut (some o)) : Fr H (upd H p u) := by
  refine ⟨fun a xs q => ?_, fun a o' z q => ?_⟩
  · by_cases e : a = p
    · subst e; rw [h] at q; cases q; exact m.elim
    · rw [upd_ne e]; exact q
  · by_cases e : a = p
    · subst e; rw [h] at q; cases q; exact m.elim
    · rw [upd_ne e]; exact q
theorem Fr.sqT {K : PySem.W.Frag} {H H' : Hp} (f : Fr H H') {a : Addr} {xs : List V} (h : SqT K H a xs) : SqT K H' a xs := by
  rcases h with (h | ⟨o, h⟩) | h
  · exact .inl (.inl (f.1 a xs h))
  · exact .inl (.inr ⟨o, f.2 a o _ h⟩)
  · exact .inr h
structure Wd.le (w w' : Wd) : Prop where
  len : w.M.length ≤ w'.M.length
  ρ : ∀ i, i < w.M.length → w'.ρ i = w.ρ i
  fr : Fr w.H w'.H
theorem Wd.le.refl (w : Wd) : w.le w := ⟨Nat.le_refl _, fun _ _ => rfl, .refl _⟩
theorem Wd.le.trans {a b c : Wd} (p : a.le b) (q : b.le c) : a.le c :=
  ⟨Nat.le_trans p.len q.len, fun i h => (q.ρ i (Nat.lt_of_lt_of_le h p.len)).trans (p.ρ i h), p.fr.trans q.fr⟩
mutual
def RelD (R : RC) (w : Wd) : D → V → Prop
  | .non, v => v = .non
  | .bl b, v => v = .bl b
  | .int i, v => v = .int i
  | .str s, v => v = .str s
  | .ref n, v => n < w.M.length ∧ v = .ref (w.ρ n)
  | .gl x, v => ∃ u, R.mg x = some u ∧ RelV v u
  | .ty n, v => v = .ty n
  | .exn a _, v => v = .ref a
  | .tup l, v => ∃ a xs, v = .ref a ∧ SqT R.K w.H a xs ∧ RelL R w l xs
def RelL (R : RC) (w : Wd) : List D → List V → Prop
  | [], xs => xs = []
  | d :: l, xs => ∃ x r, xs = x :: r ∧ RelD R w d x ∧ RelL R w l r
end
theorem RelL.nil {R : RC} {w : Wd} : RelL R w [] [] := by unfold RelL; rfl
theorem RelL.cons {R : RC} {w : Wd} {d : D} {l : List D} {x : V} {r : List V} (h : RelD R w d x) (t : RelL R w l r) : RelL R w (d :: l) (x :: r) := by
  unfold RelL; exact ⟨x, r, rfl, h, t⟩
mutual
theorem RelD.mono {R : RC} {w w' : Wd} (h : w.le w') : ∀ (d : D) (v : V), RelD R w d v → RelD R w' d v
  | .non, _, r => by unfold RelD at r ⊢; exact r
  | .bl _, _, r => by unfold RelD at r ⊢; exact r
  | .int _, _, r => by unfold RelD at r ⊢; exact r
  | .str _, _, r => by unfold RelD at r ⊢; exact r
  | .gl _, _, r => by unfold RelD at r ⊢; exact r
  | .ty _, _, r => by unfold RelD at r ⊢; exact r
  | .exn _ _, _, r => by unfold RelD at r ⊢; exact r
  | .ref n, _, r => by
    unfold RelD at r ⊢
    exact ⟨Nat.lt_of_lt_of_le r.1 h.len, by rw [h.ρ n r.1]; exact r.2⟩
  | .tup l, _, r => by
    unfold RelD at r ⊢
    obtain ⟨a, xs, e, s, t⟩ := r
    exact ⟨a, xs, e, h.fr.sqT s, RelL.mono h l xs t⟩
theorem RelL.mono {R : RC} {w w' : Wd} (h : w.le w') : ∀ (l : List D) (xs : List V), RelL R w l xs → RelL R w' l xs
  | [], _, r => by unfold RelL at r ⊢; exact r
  | d :: l, _, r => by
    unfold RelL at r ⊢
    obtain ⟨x, q, e, a, b⟩ := r
    exact ⟨x, q, e, RelD.mono h d x a, RelL.mono h l q b⟩
end
theorem RelL.length {R : RC} {w : Wd} : ∀ {l : List D} {xs : List V}, RelL R w l xs → xs.length = l.length
  | [], _, r => by unfold RelL at r; subst r; rfl
  | d :: l, _, r => by
    unfold RelL at r
    obtain ⟨x, q, e, _, b⟩ := r
    subst e
    rw [List.length_cons, List.length_cons, RelL.length b]
theorem RelL.app {R : RC} {w : Wd} : ∀ {l m : List D} {xs ys : List V}, RelL R w l xs → RelL R w m ys → RelL R w (l ++ m) (xs ++ ys)
  | [], _, _, _, r, s => by unfold RelL at r; subst r; exact s
  | d :: l, _, _, _, r, s => by
    unfold RelL at r
    obtain ⟨x, q, e, a, b⟩ := r
    subst e
    exact .cons a (RelL.app b s)
theorem RelL.get {R : RC} {w : Wd} : ∀ {l : List D} {xs : List V} {i : Nat} {d : D}, RelL R w l xs → l[i]? = some d → ∃ x, xs[i]? = some x ∧ RelD R w d x
  | [], _, _, _, _, h => by simp at h
  | d :: l, _, i, d', r, h => by
    unfold RelL at r
    obtain ⟨x, q, e, a, b⟩ := r
    subst e
    cases i with
    | zero => simp at h; subst h; exact ⟨x, rfl, a⟩
    | succ i => exact RelL.get (i := i) b (by simpa using h)
theorem RelL.take {R : RC} {w : Wd} : ∀ (n : Nat) {l : List D} {xs : List V}, RelL R w l xs → RelL R w (l.take n) (xs.take n)
  | 0, _, _, _ => by rw [List.take_zero, List.take_zero]; exact .nil
  | _ + 1, [], _, r => by unfold RelL at r; subst r; exact .nil
  | n + 1, d :: l, _, r => by
    unfold RelL at r
    obtain ⟨x, q, e, a, b⟩ := r
    subst e
    exact .cons a (RelL.take n b)
theorem RelL.drop {R : RC} {w : Wd} : ∀ (n : Nat) {l : List D} {xs : List V}, RelL R w l xs → RelL R w (l.drop n) (xs.drop n)
  | 0, _, _, r => r
  | _ + 1, [], _, r => by unfold RelL at r; subst r; exact .nil
  | n + 1, d :: l, _, r => by
    unfold RelL at r
    obtain ⟨x, q, e, a, b⟩ := r
    subst e
    exact RelL.drop n b
theorem RelL.set {R : RC} {w : Wd} {d : D} {x : V} (h : RelD R w d x) : ∀ (n : Nat) {l : List D} {xs : List V}, RelL R w l xs → RelL R w (l.set n d) (xs.set n x)
  | _, [], _, r => by unfold RelL at r; subst r; exact .nil
  | 0, d :: l, _, r => by
    unfold RelL at r
    obtain ⟨x, q, e, a, b⟩ := r
    subst e
    exact .cons h b
  | n + 1, d :: l, _, r => by
    unfold RelL at r
    obtain ⟨x, q, e, a, b⟩ := r
    subst e
    exact .cons a (RelL.set h n b)
theorem RelL.rev {R : RC} {w : Wd} : ∀ {l : List D} {xs : List V}, RelL R w l xs → RelL R w l.reverse xs.reverse
  | [], _, r => by unfold RelL at r; subst r; exact .nil
  | d :: l, _, r => by
    unfold RelL at r
    obtain ⟨x, q, e, a, b⟩ := r
    subst e
    rw [List.reverse_cons, List.reverse_cons]
    exact RelL.app (RelL.rev b) (.cons a .nil)
/-- the fields of an instance -/
def RelF (R : RC) (w : Wd) : List (Str × D) → List (Str × V) → Prop
  | [], xs => xs = []
  | p :: l, xs => ∃ q r, xs = q :: r ∧ p.1 = q.1 ∧ RelD R w p.2 q.2 ∧ RelF R w l r
theorem RelF.mono {R : RC} {w w' : Wd} (h : w.le w') : ∀ (l : List (Str × D)) (xs : List (Str × V)), RelF R w l xs → RelF R w' l xs
  | [], _, r => r
  | p :: l, _, r => by
    obtain ⟨q, r', e, a, b, c⟩ := r
    exact ⟨q, r', e, a, RelD.mono h _ _ b, RelF.mono h l r' c⟩
/-- a thing of the store stands in the heap -/
def RelM (R : RC) (w : Wd) : MO → HO → Prop
  | .lst l, o => ∃ xs, o = .lst xs ∧ RelL R w l xs
  | .fz l, o => ∃ ob xs, o = .frz ob (.lst xs) ∧ RelL R w l xs
  | .ins C fs, o => ∃ Ca dx fv, R.mg C = some (.ref Ca) ∧ o = .ins Ca dx fv ∧ RelF R w fs fv
  | .any, _ => False
theorem RelM.mono {R : RC} {w w' : Wd} (h : w.le w') : ∀ (m : MO) (o : HO), RelM R w m o → RelM R w' m o
  | .lst l, _, ⟨xs, e, r⟩ => ⟨xs, e, RelL.mono h l xs r⟩
  | .fz l, _, ⟨ob, xs, e, r⟩ => ⟨ob, xs, e, RelL.mono h l xs r⟩
  | .ins C fs, _, ⟨Ca, dx, fv, g, e, r⟩ => ⟨Ca, dx, fv, g, e, RelF.mono h fs fv r⟩
  | .any, _, h => h
/-- a world that holds: the things of the store, apart from one another and from the code objects of lambdas (cp) -/
structure Wd.Ok (R : RC) (w : Wd) : Prop where
  at_ : ∀ (n : Nat) (m : MO), w.M[n]? = some m → ∃ o, w.H (w.ρ n) = some o ∧ RelM R w m o ∧ ∀ ps, o ≠ .tbl ps
  inj : ∀ i j, i < w.M.length → j < w.M.length → w.ρ i = w.ρ j → i = j
  cod : ∀ c q, w.cp c q → w.H c = some (LamX.CodeO c q)
  sep : ∀ n c q, n < w.M.length → w.cp c q → w.ρ n ≠ c
  tab : ∀ p ∈ R.T.tabs, ∃ ps : Array Value, w.H p.1 = some (.tbl ps) ∧ TriplesOk ps.toList ∧ ∀ (pos : Pos) (cv : Value), codeAmong pos ps.toList = some cv → ∃ c, cv = .ref c ∧ w.cp c p.2
theorem Wd.Ok.tabs {R : RC} {w : Wd} (o : w.Ok R) : LamX.Tabs R.T.tabs w.H := fun p hp => by
  obtain ⟨ps, t1, t2, t3⟩ := o.tab p hp
  exact ⟨ps, t1, t2, fun pos cv h => let ⟨c, e, k⟩ := t3 pos cv h; ⟨c, e, o.cod c _ k⟩⟩
/-- the slots -/
structure SRel (R : RC) (w : Wd) (δ : DEnv) (σ : St) : Prop where
  len : δ.length = σ.length
  at_ : ∀ (i : Nat) (d : D), δ[i]? = some (some d) → ∃ v, σ[i]? = some (some v) ∧ RelD R w d v
theorem SRel.mono {R : RC} {w w' : Wd} {δ : DEnv} {σ : St} (h : w.le w') (s : SRel R w δ σ) : SRel R w' δ σ :=
  ⟨s.len, fun i d e => let ⟨v, a, b⟩ := s.at_ i d e; ⟨v, a, RelD.mono h d v b⟩⟩
theorem SRel.set {R : RC} {w : Wd} {δ : DEnv} {σ : St} (s : SRel R w δ σ) {d : D} {v : V} (r : RelD R w d v) (i : Nat) : SRel R w (δ.set i (some d)) (σ.set i (some v)) := by
  refine ⟨by rw [List.length_set, List.length_set, s.len], fun j d' e => ?_⟩
  by_cases h : i = j
  · subst h
    by_cases hl : i < δ.length
    · rw [List.getElem?_set_self hl] at e
      cases e
      exact ⟨v, by rw [List.getElem?_set_self (by rw [← s.len]; exact hl)], r⟩
    · rw [List.getElem?_eq_none (by rw [List.length_set]; omega)] at e; cases e
  · rw [List.getElem?_set_ne h] at e
    rw [List.getElem?_set_ne h]
    exact s.at_ j d' e
theorem SRel.forget {R : RC} {w : Wd} {δ : DEnv} {σ : St} (s : SRel R w δ σ) (i : Nat) : SRel R w (δ.set i none) (σ.set i none) := by
  refine ⟨by rw [List.length_set, List.length_set, s.len], fun j d' e => ?_⟩
  by_cases h : i = j
  · subst h
    by_cases hl : i < δ.length
    · rw [List.getElem?_set_self hl] at e; cases e
    · rw [List.getElem?_eq_none (by rw [List.length_set]; omega)] at e; cases e
  · rw [List.getElem?_set_ne h] at e
    rw [List.getElem?_set_ne h]
    exact s.at_ j d' e
/-- δ says no more than δ' -/
theorem SRel.weak {R : RC} {w : Wd} {δ δ' : DEnv} {σ : St} (s : SRel R w δ σ) (hl : δ'.length = δ.length) (h : ∀ (i : Nat) (d : D), δ'[i]? = some (some d) → δ[i]? = some (some d)) : SRel R w δ' σ :=
  ⟨hl.trans s.len, fun i d e => s.at_ i d (h i d e)⟩
section
variable {R : RC} {w : Wd}
theorem Wd.Ok.lt (o : w.Ok R) {n : Nat} {m : MO} (h : w.M[n]? = some m) : n < w.M.length := (List.getElem?_eq_some_iff.mp h).1
/-- a new object beside the store -/
theorem Wd.Ok.beside (o : w.Ok R) {p : Addr} {u : HO} (hp : w.H p = none) : (⟨w.ρ, w.M, upd w.H p u, w.cp⟩ : Wd).Ok R ∧ w.le ⟨w.ρ, w.M, upd w.H p u, w.cp⟩ := by
  have le : w.le ⟨w.ρ, w.M, upd w.H p u, w.cp⟩ := ⟨Nat.le_refl _, fun _ _ => rfl, Fr.new hp⟩
  refine ⟨⟨fun n m e => ?_, o.inj, fun c q h => ?_, o.sep, fun q hq => ?_⟩, le⟩
  · obtain ⟨u, h, r, nt⟩ := o.at_ n m e
    exact ⟨u, by show upd w.H p _ (w.ρ n) = _; rw [upd_ne (ne_of_none h hp)]; exact h, r.mono le, nt⟩
  · have e := o.cod c q h
    show upd w.H p _ c = _
    rw [upd_ne (ne_of_none e hp)]; exact e
  · obtain ⟨ps, t1, t2⟩ := o.tab q hq
    exact ⟨ps, by show upd w.H p _ q.1 = _; rw [upd_ne (ne_of_none t1 hp)]; exact t1, t2⟩
/-- a new thing of the store -/
def Wd.push (w : Wd) (p : Addr) (m : MO) (u : HO) : Wd := ⟨fun i => if i = w.M.length then p else w.ρ i, w.M ++ [m], upd w.H p u, w.cp⟩
theorem Wd.Ok.pushed (o : w.Ok R) {p : Addr} (hp : w.H p = none) {m : MO} {u : HO} (r : ∀ w', w.le w' → RelM R w' m u) (nt : ∀ ps, u ≠ .tbl ps) : (w.push p m u).Ok R ∧ w.le (w.push p m u) ∧ (w.push p m u).ρ w.M.length = p := by
  have le : w.le (w.push p m u) := by
    refine ⟨by show w.M.length ≤ (w.M ++ [m]).length; simp, fun i h => ?_, Fr.new hp⟩
    show (if i = w.M.length then p else w.ρ i) = w.ρ i
    rw [if_neg (by omega)]
  have self : (w.push p m u).ρ w.M.length = p := by show (if w.M.length = w.M.length then p else _) = p; rw [if_pos rfl]
  have ne : ∀ k, k < w.M.length → w.ρ k ≠ p := fun k hk => by
    obtain ⟨q, h, _⟩ := o.at_ k _ (List.getElem?_eq_getElem hk)
    exact ne_of_none h hp
  have HU : (w.push p m u).H = upd w.H p u := rfl
  refine ⟨⟨fun n m' e => ?_, fun i j hi hj e => ?_, fun c q h => ?_, fun n c q hn hc => ?_, fun q hq => ?_⟩, le, self⟩
  · have e' : (w.M ++ [m])[n]? = some m' := e
    by_cases hn : n < w.M.length
    · rw [List.getElem?_append_left hn] at e'
      obtain ⟨q, h, r', n'⟩ := o.at_ n m' e'
      refine ⟨q, ?_, r'.mono le, n'⟩
      rw [le.ρ n hn, HU, upd_ne (ne_of_none h hp)]
      exact h
    · have hl := (List.getElem?_eq_some_iff.mp e').1
      have hn' : n = w.M.length := by simp at hl; omega
      subst hn'
      rw [List.getElem?_append_right (Nat.le_refl _)] at e'
      simp at e'
      subst e'
      exact ⟨u, by rw [self]; exact upd_same, r _ le, nt⟩
  · have hi' : i < (w.M ++ [m]).length := hi
    have hj' : j < (w.M ++ [m]).length := hj
    simp at hi' hj'
    have e' : (if i = w.M.length then p else w.ρ i) = (if j = w.M.length then p else w.ρ j) := e
    by_cases a : i = w.M.length <;> by_cases b : j = w.M.length
    · omega
    · rw [if_pos a, if_neg b] at e'; exact absurd e'.symm (ne j (by omega))
    · rw [if_neg a, if_pos b] at e'; exact absurd e' (ne i (by omega))
    · rw [if_neg a, if_neg b] at e'; exact o.inj i j (by omega) (by omega) e'
  · have e := o.cod c q h
    rw [HU, upd_ne (ne_of_none e hp)]; exact e
  · have hn' : n < (w.M ++ [m]).length := hn
    simp at hn'
    by_cases a : n = w.M.length
    · subst a; rw [self]; intro z; subst z; have e := o.cod _ q hc; rw [hp] at e; cases e
    · rw [le.ρ n (by omega)]; exact o.sep n c q (by omega) hc
  · obtain ⟨ps, t1, t2⟩ := o.tab q hq
    exact ⟨ps, by rw [HU, upd_ne (ne_of_none t1 hp)]; exact t1, t2⟩
/-- a thing of the store changed -/
def Wd.put (w : Wd) (n : Nat) (m : MO) (u : HO) : Wd := ⟨w.ρ, w.M.set n m, upd w.H (w.ρ n) u, w.cp⟩
theorem Wd.Ok.putted (o : w.Ok R) {n : Nat} {m₀ m : MO} {u₀ u : HO} (hn : w.M[n]? = some m₀) (hu : w.H (w.ρ n) = some u₀) (mu : Mut (some u₀)) (r : ∀ w', w.le w' → RelM R w' m u) (nt : ∀ ps, u ≠ .tbl ps) :
    (w.put n m u).Ok R ∧ w.le (w.put n m u) := by
  have le : w.le (w.put n m u) := ⟨by show w.M.length ≤ (w.M.set n m).length; rw [List.length_set]; exact Nat.le_refl _, fun _ _ => rfl, Fr.set hu mu⟩
  have hl := o.lt hn
  have HU : (w.put n m u).H = upd w.H (w.ρ n) u := rfl
  refine ⟨⟨fun k m' e => ?_, fun i j hi hj e => o.inj i j (by simpa [Wd.put] using hi) (by simpa [Wd.put] using hj) e, fun c q h => ?_, fun k c q hk hc => o.sep k c q (by simpa [Wd.put] using hk) hc, fun p hp => ?_⟩, le⟩
  · have e' : (w.M.set n m)[k]? = some m' := e
    by_cases h : n = k
    · subst h
      rw [List.getElem?_set_self hl] at e'
      cases e'
      exact ⟨u, upd_same, r _ le, nt⟩
    · rw [List.getElem?_set_ne h] at e'
      obtain ⟨q, hq, r', n'⟩ := o.at_ k m' e'
      refine ⟨q, ?_, r'.mono le, n'⟩
      show upd w.H (w.ρ n) u (w.ρ k) = _
      rw [upd_ne fun z => h (o.inj n k hl (o.lt e') z.symm)]
      exact hq
  · rw [HU, upd_ne fun z => o.sep n c q hl h z.symm]; exact o.cod c q h
  · obtain ⟨ps, t1, t2⟩ := o.tab p hp
    refine ⟨ps, ?_, t2⟩
    rw [HU, upd_ne fun z => ?_]
    · exact t1
    · rw [z, hu] at t1; cases t1; exact mu
end
end Pd
namespace Pd
open PySem PySem.Spec PyProof.Rows L2
/-! ### results -/
inductive Res (α : Type) where
  | ok (a : α) (M : Mem) | exc (x : Exn) (M : Mem) | bad
def Res.bind {α β : Type} : Res α → (α → Mem → Res β) → Res β
  | .ok d M, k => k d M
  | .exc x M, _ => .exc x M
  | .bad, _ => .bad
def ofV {α : Type} : Option (α × Mem) → Res α
  | some p => .ok p.1 p.2
  | none => .bad
abbrev EF (α : Type) := DEnv → Mem → Res α
/-- an exception's class and its own dict -/
def RelX (R : RC) (w : Wd) (x : Exn) (cls : Value) (dx : Option Addr) : Prop :=
  ∃ C, R.mg x.cls = some (.ref C) ∧ cls = .ref C ∧ ((x.fs = [] ∧ dx = none) ∨ (x.fs ≠ [] ∧ ∃ d fv, dx = some d ∧ w.H d = some (.xd fv) ∧ RelF R w x.fs fv))
section
variable {α β γ δt : Type}
/-- what is wanted of a result -/
def Post (R : RC) (W : WX) (w : Wd) (σ : St) (rel : Wd → α → β → Prop) (Q : β → Hp → Prop) : Res α → Prop
  | .ok a M' => ∀ w' b, w'.M = M' → w.le w' → w'.Ok R → rel w' a b → Q b w'.H
  | .exc x M' => ∀ w' cls dx, w'.M = M' → w.le w' → w'.Ok R → RelX R w' x cls dx → W cls dx σ w'.H
  | .bad => False
theorem Post.at {R : RC} {W : WX} {w w' : Wd} {σ : St} {rel : Wd → α → β → Prop} {Q : β → Hp → Prop} (l : w.le w') : ∀ {r : Res α}, Post R W w σ rel Q r → Post R W w' σ rel Q r
  | .ok _ _, h => fun w2 b e l2 o r => h w2 b e (l.trans l2) o r
  | .exc _ _, h => fun w2 c d e l2 o r => h w2 c d e (l.trans l2) o r
  | .bad, h => h
theorem Post.bind {R : RC} {W : WX} {w : Wd} {σ : St} {rel : Wd → α → β → Prop} {rel2 : Wd → γ → δt → Prop} {Q1 : β → Hp → Prop} {Q : δt → Hp → Prop} {r : Res α} {k : α → Mem → Res γ}
    (h : Post R W w σ rel2 Q (r.bind k)) (hk : ∀ a w' b, w.le w' → w'.Ok R → rel w' a b → Post R W w' σ rel2 Q (k a w'.M) → Q1 b w'.H) : Post R W w σ rel Q1 r := by
  cases r with
  | ok a M => exact fun w' b e l o q => hk a w' b l o q (by subst e; exact Post.at l h)
  | exc x M => exact h
  | bad => exact h
theorem Post.mono {R : RC} {W : WX} {w : Wd} {σ : St} {rel : Wd → α → β → Prop} {Q Q' : β → Hp → Prop} {r : Res α} (h : Post R W w σ rel Q r) (hQ : ∀ b w', w.le w' → w'.Ok R → Q b w'.H → Q' b w'.H) : Post R W w σ rel Q' r := by
  cases r with
  | ok a M => exact fun w' b e l o q => hQ b w' l o (h w' b e l o q)
  | exc x M => exact h
  | bad => exact h
theorem Post.map {R : RC} {W : WX} {w : Wd} {σ : St} {rel : Wd → α → β → Prop} {rel2 : Wd → γ → δt → Prop} {Q : β → Hp → Prop} {Q2 : δt → Hp → Prop} {r : Res α} {f : α → γ} (h : Post R W w σ rel2 Q2 (r.bind fun a M => .ok (f a) M))
    (hr : ∀ a w' b, w.le w' → w'.Ok R → rel w' a b → ∃ b2, rel2 w' (f a) b2 ∧ (Q2 b2 w'.H → Q b w'.H)) : Post R W w σ rel Q r :=
  h.bind fun a w' b l o q h2 => by
    obtain ⟨b2, r2, q2⟩ := hr a w' b l o q
    exact q2 (h2 w' b2 rfl (.refl _) o r2)
end
def relB : Wd → Bool → Bool → Prop := fun _ a b => a = b
/-- an expression is the function f -/
def EV (T : TB) (W : WX) (X : Cx) (e : Expr) (f : EF D) : Prop :=
  ∃ t, PE X e t ∧ ∀ w δ σ Q, w.Ok (rc T X) → SRel (rc T X) w δ σ → Post (rc T X) W w σ (RelD (rc T X)) Q (f δ w.M) → t σ w.H Q
def ET (T : TB) (W : WX) (X : Cx) (e : Expr) (f : EF Bool) : Prop :=
  ∃ t, PT X e t ∧ ∀ w δ σ Q, w.Ok (rc T X) → SRel (rc T X) w δ σ → Post (rc T X) W w σ relB Q (f δ w.M) → t σ w.H Q
def ETW (T : TB) (W : WX) (X : Cx) (e : Expr) (f : EF Bool) : Prop :=
  ∃ t, PW X e t ∧ ∀ w δ σ Q, w.Ok (rc T X) → SRel (rc T X) w δ σ → Post (rc T X) W w σ relB Q (f δ w.M) → t σ w.H Q
def EA (T : TB) (W : WX) (X : Cx) (es : List Expr) (f : EF (List D)) : Prop :=
  ∃ t, PA X es t ∧ ∀ w δ σ Q, w.Ok (rc T X) → SRel (rc T X) w δ σ → Post (rc T X) W w σ (RelL (rc T X)) Q (f δ w.M) → t σ w.H Q
/-! ### the functions -/
def dBad {α : Type} : EF α := fun _ _ => .bad
def dVar (i : Nat) : EF D := fun δ M => match δ[i]? with
  | some (some d) => .ok d M
  | _ => .bad
def dC (d : D) : EF D := fun _ M => .ok d M
def dBin (op : D → D → Mem → OV) (f g : EF D) : EF D := fun δ M => (f δ M).bind fun a M1 => (g δ M1).bind fun b M2 => ofV (op a b M2)
def dUn (op : D → Mem → OV) (f : EF D) : EF D := fun δ M => (f δ M).bind fun a M1 => ofV (op a M1)
def dCh (op op' : D → D → Mem → OV) (f g h : EF D) : EF D := fun δ M => (f δ M).bind fun a M1 => (g δ M1).bind fun b M2 => (ofV (op a b M2)).bind fun z M3 => match z with
  | .bl true => (h δ M3).bind fun c M4 => ofV (op' b c M4)
  | .bl false => .ok (.bl false) M3
  | _ => .bad
def dCh3 (op op' op2 : D → D → Mem → OV) (f g h k : EF D) : EF D := fun δ M => (f δ M).bind fun a M1 => (g δ M1).bind fun b M2 => (ofV (op a b M2)).bind fun z M3 => match z with
  | .bl true => (h δ M3).bind fun c M4 => (ofV (op' b c M4)).bind fun z2 M5 => match z2 with
    | .bl true => (k δ M5).bind fun d M6 => ofV (op2 c d M6)
    | .bl false => .ok (.bl false) M5
    | _ => .bad
  | .bl false => .ok (.bl false) M3
  | _ => .bad
def tV (f : EF D) : EF Bool := fun δ M => (f δ M).bind fun a M1 => match a with
  | .bl b => .ok b M1
  | _ => .bad
def vT (f : EF Bool) : EF D := fun δ M => (f δ M).bind fun b M1 => .ok (.bl b) M1
def tAnd (f g : EF Bool) : EF Bool := fun δ M => (f δ M).bind fun b M1 => if b = true then g δ M1 else .ok false M1
def tOr (f g : EF Bool) : EF Bool := fun δ M => (f δ M).bind fun b M1 => if b = true then .ok true M1 else g δ M1
def tNot (f : EF Bool) : EF Bool := fun δ M => (f δ M).bind fun b M1 => .ok (!b) M1
def dAnd (f g : EF D) : EF D := fun δ M => (f δ M).bind fun a M1 => match a with
  | .bl true => g δ M1
  | .bl false => .ok (.bl false) M1
  | _ => .bad
def dOr (f g : EF D) : EF D := fun δ M => (f δ M).bind fun a M1 => match a with
  | .bl true => .ok (.bl true) M1
  | .bl false => g δ M1
  | _ => .bad
def dNot (f : EF D) : EF D := fun δ M => (f δ M).bind fun a M1 => match a with
  | .bl b => .ok (.bl (!b)) M1
  | _ => .bad
def dIf (c : EF Bool) (f g : EF D) : EF D := fun δ M => (c δ M).bind fun b M1 => if b = true then f δ M1 else g δ M1
def aNil : EF (List D) := fun _ M => .ok [] M
def aCons (f : EF D) (g : EF (List D)) : EF (List D) := fun δ M => (f δ M).bind fun a M1 => (g δ M1).bind fun l M2 => .ok (a :: l) M2
def dTup (g : EF (List D)) : EF D := fun δ M => (g δ M).bind fun l M1 => if l.length ≤ sizeLine then .ok (.tup l) M1 else .bad
def dLst (g : EF (List D)) : EF D := fun δ M => (g δ M).bind fun l M1 => if l.length ≤ sizeLine then .ok (.ref M1.length) (M1 ++ [.lst l]) else .bad
def dBlt (op : List D → Mem → OV) (g : EF (List D)) : EF D := fun δ M => (g δ M).bind fun l M1 => ofV (op l M1)
section
variable {T : TB} {W : WX} {X : Cx} {e a b c : Expr} {es : List Expr} {pos : Pos} {f g h : EF D} {c0 ct : EF Bool} {ga : EF (List D)} {x : Str} {i : Nat}
theorem EV.bad (e : Expr) : EV T W X e dBad := ⟨fun _ _ _ => False, ⟨fun _ _ _ _ _ _ h => h.elim⟩, fun _ _ _ _ _ _ h => h⟩
theorem ET.bad (e : Expr) : ET T W X e dBad := ⟨fun _ _ _ => False, ⟨fun _ _ _ _ _ _ h => h.elim⟩, fun _ _ _ _ _ _ h => h⟩
theorem ETW.bad (e : Expr) : ETW T W X e dBad := ⟨fun _ _ _ => False, ⟨fun _ _ _ _ _ _ _ h => h.elim⟩, fun _ _ _ _ _ _ h => h⟩
theorem EA.bad (es : List Expr) : EA T W X es dBad := ⟨fun _ _ _ => False, ⟨fun _ _ _ _ _ _ _ h => h.elim⟩, fun _ _ _ _ _ _ h => h⟩
theorem ETW.t (h : ETW T W X e c0) : ET T W X e c0 := let ⟨t, p, q⟩ := h; ⟨t, p.pt, q⟩
theorem EV.var (hN : X.N[i]? = some x) (hv : Vis X.env.scope x) (hd : (x == ("__debug__" : Str)) = false) (hcd : (x == ("__classdict__" : Str)) = false) : EV T W X (.Name x pos) (dVar i) := by
  refine ⟨tVar i, pe_var hN hv hd hcd, fun w δ σ Q o s h => ?_⟩
  unfold dVar at h
  split at h
  · rename_i d e
    obtain ⟨v, e1, r⟩ := s.at_ i d e
    exact ⟨v, e1, h w v rfl (.refl _) o r⟩
  · exact h.elim
theorem EV.const {d : D} {v : V} {t : TE} (p : PE X e t) (ht : ∀ σ H Q, Q v H → t σ H Q) (r : ∀ w, RelD (rc T X) w d v) : EV T W X e (dC d) :=
  ⟨t, p, fun w δ σ Q o s h => ht σ w.H Q (h w v rfl (.refl _) o (r w))⟩
theorem EV.int {i : Int} {j} : EV T W X (.Constant (.int i) j pos) (dC (.int i)) := EV.const pe_int (fun _ _ _ h => h) fun _ => by unfold RelD; rfl
theorem EV.bl {i : Bool} {j} : EV T W X (.Constant (.bool i) j pos) (dC (.bl i)) := EV.const pe_bl (fun _ _ _ h => h) fun _ => by unfold RelD; rfl
theorem EV.non {j} : EV T W X (.Constant .none j pos) (dC .non) := EV.const pe_non (fun _ _ _ h => h) fun _ => by unfold RelD; rfl
theorem EV.str {z : Str} {j} : EV T W X (.Constant (.str z) j pos) (dC (.str z)) := EV.const pe_str (fun _ _ _ h => h) fun _ => by unfold RelD; rfl
/-- a module's name as a value -/
theorem EV.glob {u : Value} {v : V} (hg : Gl X x) (hm : X.mg x = some u) (r : RelV v u) (hd : (x == ("__debug__" : Str)) = false) : EV T W X (.Name x pos) (dC (.gl x)) :=
  EV.const (pe_glob hg hm r hd) (fun _ _ _ h => h) fun _ => by unfold RelD; exact ⟨u, hm, r⟩
theorem EV.globI {n : Int} {t : Tok} (hg : Gl X x) (hm : X.mg x = some (.int n t)) (hd : (x == ("__debug__" : Str)) = false) : EV T W X (.Name x pos) (dC (.int n)) :=
  EV.const (pe_glob (v := .int n) hg hm ⟨t, rfl⟩ hd) (fun _ _ _ h => h) fun _ => by unfold RelD; rfl
theorem EV.globS {z : Str} {t : Tok} (hg : Gl X x) (hm : X.mg x = some (.str z t)) (hd : (x == ("__debug__" : Str)) = false) : EV T W X (.Name x pos) (dC (.str z)) :=
  EV.const (pe_glob (v := .str z) hg hm ⟨t, rfl⟩ hd) (fun _ _ _ h => h) fun _ => by unfold RelD; rfl
/-! operators -/
def PostV (R : RC) (w : Wd) (Q : VK) : OV → Prop
  | some p => ∀ w' v, w'.M = p.2 → w.le w' → w'.Ok R → RelD R w' p.1 v → Q v w'.H
  | none => False
theorem post_ofV {R : RC} {w : Wd} {σ : St} {Q : VK} {o : OV} (h : Post R W w σ (RelD R) Q (ofV o)) : PostV R w Q o := by
  cases o with
  | none => exact h
  | some p => exact h
theorem PostV.at {R : RC} {w w' : Wd} {Q : VK} (l : w.le w') : ∀ {o : OV}, PostV R w Q o → PostV R w' Q o
  | none, h => h
  | some _, h => fun w2 v e l2 o r => h w2 v e (l.trans l2) o r
/-- the answer is a value that stands already -/
theorem PostV.val {R : RC} {w : Wd} {Q : VK} {d : D} {v : V} (h : PostV R w Q (some (d, w.M))) (o : w.Ok R) (r : RelD R w d v) : Q v w.H := h w v rfl (.refl _) o r
/-- .. a new tuple -/
theorem PostV.tup {R : RC} {w : Wd} {Q : VK} {l : List D} {xs : List V} (h : PostV R w Q (some (.tup l, w.M))) (o : w.Ok R) (r : RelL R w l xs) : ∀ p, w.H p = none → Q (.ref p) (upd w.H p (.tup xs)) := fun p hp => by
  obtain ⟨o', l'⟩ := o.beside (u := .tup xs) hp
  exact h ⟨w.ρ, w.M, upd w.H p (.tup xs), w.cp⟩ (.ref p) rfl l' o' (by unfold RelD; exact ⟨p, xs, rfl, .inl (.inl upd_same), RelL.mono l' _ _ r⟩)
/-- .. a new list -/
theorem PostV.lst {R : RC} {w : Wd} {Q : VK} {l : List D} {xs : List V} (h : PostV R w Q (some (.ref w.M.length, w.M ++ [.lst l]))) (o : w.Ok R) (r : RelL R w l xs) : ∀ p, w.H p = none → Q (.ref p) (upd w.H p (.lst xs)) := fun p hp => by
  obtain ⟨o', l', e⟩ := o.pushed hp (m := .lst l) (u := .lst xs) (fun w' k => ⟨xs, rfl, RelL.mono k _ _ r⟩) (fun _ z => by cases z)
  refine h (w.push p (.lst l) (.lst xs)) (.ref p) rfl l' o' ?_
  unfold RelD
  exact ⟨by show w.M.length < (w.M ++ [_]).length; simp, by rw [e]⟩
def OpOk (T : TB) (X : Cx) (op : D → D → Mem → OV) (r : R2) : Prop :=
  ∀ w a b x y Q, w.Ok (rc T X) → RelD (rc T X) w a x → RelD (rc T X) w b y → PostV (rc T X) w Q (op a b w.M) → r x y w.H Q
theorem EV.bin {op : Operator} {r : R2} {dop : D → D → Mem → OV} (ho : OpR X (binaryOp op) r) (hk : OpOk T X dop r) (ha : EV T W X a f) (hb : EV T W X b g) : EV T W X (.BinOp a op b pos) (dBin dop f g) := by
  obtain ⟨ta, pa, qa⟩ := ha
  obtain ⟨tb, pb, qb⟩ := hb
  refine ⟨tOp r ta tb, pe_op ho pa pb, fun w δ σ Q o s h => ?_⟩
  refine qa w δ σ _ o s (h.bind fun d1 w1 v1 l1 o1 r1 h1 => ?_)
  refine qb w1 δ σ _ o1 (s.mono l1) (h1.bind fun d2 w2 v2 l2 o2 r2 h2 => ?_)
  exact hk w2 d1 d2 v1 v2 Q o2 (RelD.mono l2 _ _ r1) r2 (post_ofV h2)
theorem EV.cmp {op : CmpOp} {r : R2} {dop : D → D → Mem → OV} (ho : OpR X (compareOp op) r) (hk : OpOk T X dop r) (ha : EV T W X a f) (hb : EV T W X b g) (hm : behindInMarks op b = false) : EV T W X (.Compare a [op] [b] pos) (dBin dop f g) := by
  obtain ⟨ta, pa, qa⟩ := ha
  obtain ⟨tb, pb, qb⟩ := hb
  refine ⟨tOp r ta tb, pe_cmpR ho pa pb hm, fun w δ σ Q o s h => ?_⟩
  refine qa w δ σ _ o s (h.bind fun d1 w1 v1 l1 o1 r1 h1 => ?_)
  refine qb w1 δ σ _ o1 (s.mono l1) (h1.bind fun d2 w2 v2 l2 o2 r2 h2 => ?_)
  exact hk w2 d1 d2 v1 v2 Q o2 (RelD.mono l2 _ _ r1) r2 (post_ofV h2)
/-- from a test's answer to the answer as a value -/
theorem post_tV {R : RC} {w : Wd} {σ : St} {Q : Bool → Hp → Prop} {r : Res D} (h : Post R W w σ relB Q (r.bind fun a M1 => match a with
    | .bl b => .ok b M1
    | _ => .bad)) : Post R W w σ (RelD R) (fun v H => ∃ k, v = .bl k ∧ Q k H) r := h.bind fun d w' v l o q h2 => by
  cases d with
  | bl b => unfold RelD at q; subst q; exact ⟨b, rfl, h2 w' b rfl (.refl _) o rfl⟩
  | _ => exact h2.elim
theorem ET.cmp {op : CmpOp} {r : R2} {dop : D → D → Mem → OV} (ho : OpR X (compareOp op) r) (hk : OpOk T X dop r) (ha : EV T W X a f) (hb : EV T W X b g) (hm : behindInMarks op b = false) : ET T W X (.Compare a [op] [b] pos) (tV (dBin dop f g)) := by
  obtain ⟨ta, pa, qa⟩ := ha
  obtain ⟨tb, pb, qb⟩ := hb
  refine ⟨_, pt_cmpR ho pa pb hm, fun w δ σ Q o s h => ?_⟩
  have h' := post_tV (r := dBin dop f g δ w.M) h
  refine qa w δ σ _ o s (h'.bind fun d1 w1 v1 l1 o1 r1 h1 => ?_)
  refine qb w1 δ σ _ o1 (s.mono l1) (h1.bind fun d2 w2 v2 l2 o2 r2 h2 => ?_)
  exact hk w2 d1 d2 v1 v2 _ o2 (RelD.mono l2 _ _ r1) r2 (post_ofV h2)
def tThree (r r' r2 : R2) (ta tb tc td : TE) : TE := fun σ H Q => ta σ H fun x H1 => tb σ H1 fun y H2 => r x y H2 fun z H3 => ∃ k, z = .bl k ∧
  (if k = true then tc σ H3 fun w' H4 => r' y w' H4 fun z2 H5 => ∃ k2, z2 = .bl k2 ∧
    (if k2 = true then td σ H5 fun u' H6 => r2 w' u' H6 Q else Q (.bl false) H5) else Q (.bl false) H3)
theorem pe_three {op op' op2 : CmpOp} {r r' r2 : R2} (ho : OpR X (compareOp op) r) (ho' : OpR X (compareOp op') r') (ho2 : OpR X (compareOp op2) r2) (ha : PE X a ta) (hb : PE X b tb) (hc : PE X c tc) (hd : PE X d td)
    (hm : lastMarks [op, op', op2] [b, c, d] = false) : PE X (.Compare a [op, op', op2] [b, c, d] pos) (tThree r r' r2 ta tb tc td) := by
  refine ⟨fun pins s σ H Q I h => ?_⟩
  refine Compare_chain (thn (ha.run pins s σ H _ I h) fun v s1 ⟨x, H1, I1, r1, q1⟩ => chain_link (thn (hb.run pins s1 σ H1 _ I1 q1) fun u s2 ⟨y, H2, I2, r2, q2⟩ =>
    thn (ho pins s2 σ H2 x y v u _ I2 r1 r2 q2) fun dd s3 ⟨z, H3, I3, r3, k, e, q3⟩ => ?_)) hm
  subst e
  cases r3
  refine wpAny_truthy_bool ?_
  cases k with
  | false => exact ite_ff ⟨.bl false, H3, I3, rfl, q3⟩
  | true =>
    refine ite_tt (chain_link (thn (hc.run pins s3 σ H3 _ I3 q3) fun w' s4 ⟨z', H4, I4, r4, q4⟩ => thn (ho' pins s4 σ H4 y z' u w' _ I4 r2 r4 q4) fun d' s5 ⟨z2, H5, I5, r5, k2, e2, q5⟩ => ?_))
    subst e2
    cases r5
    refine wpAny_truthy_bool ?_
    cases k2 with
    | false => exact ite_ff ⟨.bl false, H5, I5, rfl, q5⟩
    | true => exact ite_tt (chain_last (thn (hd.run pins s5 σ H5 _ I5 q5) fun w2 s6 ⟨z6, H6, I6, r6, q6⟩ => ho2 pins s6 σ H6 z' z6 w' w2 Q I6 r4 r6 q6))
theorem pt_three {op op' op2 : CmpOp} {r r' r2 : R2} (ho : OpR X (compareOp op) r) (ho' : OpR X (compareOp op') r') (ho2 : OpR X (compareOp op2) r2) (ha : PE X a ta) (hb : PE X b tb) (hc : PE X c tc) (hd : PE X d td)
    (hm : lastMarks [op, op', op2] [b, c, d] = false) : PT X (.Compare a [op, op', op2] [b, c, d] pos) (tTest (tThree r r' r2 ta tb tc td)) := by
  refine ⟨fun pins s σ H Q I h => ?_⟩
  refine isTrue_chain (thn (ha.run pins s σ H _ I h) fun v s1 ⟨x, H1, I1, r1, q1⟩ => test_link (thn (hb.run pins s1 σ H1 _ I1 q1) fun u s2 ⟨y, H2, I2, r2, q2⟩ =>
    thn (ho pins s2 σ H2 x y v u _ I2 r1 r2 q2) fun dd s3 ⟨z, H3, I3, r3, k, e, q3⟩ => ?_)) hm
  subst e
  cases r3
  refine wpAny_truthy_bool ?_
  cases k with
  | false =>
    obtain ⟨k', e', q'⟩ := q3
    cases e'
    exact ite_ff ⟨H3, I3, q'⟩
  | true =>
    refine ite_tt (test_link (thn (hc.run pins s3 σ H3 _ I3 q3) fun w' s4 ⟨z', H4, I4, r4, q4⟩ => thn (ho' pins s4 σ H4 y z' u w' _ I4 r2 r4 q4) fun d' s5 ⟨z2, H5, I5, r5, k2, e2, q5⟩ => ?_))
    subst e2
    cases r5
    refine wpAny_truthy_bool ?_
    cases k2 with
    | false =>
      obtain ⟨k', e', q'⟩ := q5
      cases e'
      exact ite_ff ⟨H5, I5, q'⟩
    | true =>
      refine ite_tt (test_last (thn (hd.run pins s5 σ H5 _ I5 q5) fun w2 s6 ⟨z6, H6, I6, r6, q6⟩ => thn (ho2 pins s6 σ H6 z' z6 w' w2 _ I6 r4 r6 q6) fun d2 s7 ⟨z7, H7, I7, r7, k7, e7, q7⟩ => ?_))
      subst e7
      cases r7
      exact wpAny_truthy_bool ⟨H7, I7, q7⟩
theorem EV.chain {op op' : CmpOp} {r r' : R2} {dop dop' : D → D → Mem → OV} (ho : OpR X (compareOp op) r) (hk : OpOk T X dop r) (ho' : OpR X (compareOp op') r') (hk' : OpOk T X dop' r') (ha : EV T W X a f) (hb : EV T W X b g) (hc : EV T W X c h)
    (hm : lastMarks [op, op'] [b, c] = false) : EV T W X (.Compare a [op, op'] [b, c] pos) (dCh dop dop' f g h) := by
  obtain ⟨ta, pa, qa⟩ := ha
  obtain ⟨tb, pb, qb⟩ := hb
  obtain ⟨tc, pc, qc⟩ := hc
  refine ⟨_, pe_chain ho ho' pa pb pc hm, fun w δ σ Q o s h => ?_⟩
  refine qa w δ σ _ o s (h.bind fun d1 w1 v1 l1 o1 r1 h1 => ?_)
  refine qb w1 δ σ _ o1 (s.mono l1) (h1.bind fun d2 w2 v2 l2 o2 r2 h2 => ?_)
  refine hk w2 d1 d2 v1 v2 _ o2 (RelD.mono l2 _ _ r1) r2 (post_ofV (h2.bind fun d3 w3 v3 l3 o3 r3 h3 => ?_))
  cases d3 with
  | bl k =>
    unfold RelD at r3
    subst r3
    refine ⟨k, rfl, ?_⟩
    cases k with
    | true =>
      rw [if_pos rfl]
      refine qc w3 δ σ _ o3 (s.mono ((l1.trans l2).trans l3)) (h3.bind fun d4 w4 v4 l4 o4 r4 h4 => ?_)
      exact hk' w4 d2 d4 v2 v4 Q o4 (RelD.mono (l3.trans l4) _ _ r2) r4 (post_ofV h4)
    | false =>
      rw [if_neg Bool.false_ne_true]
      exact h3 w3 (.bl false) rfl (.refl _) o3 (by unfold RelD; rfl)
  | _ => exact h3.elim
theorem ET.chain {op op' : CmpOp} {r r' : R2} {dop dop' : D → D → Mem → OV} (ho : OpR X (compareOp op) r) (hk : OpOk T X dop r) (ho' : OpR X (compareOp op') r') (hk' : OpOk T X dop' r') (ha : EV T W X a f) (hb : EV T W X b g) (hc : EV T W X c h)
    (hm : lastMarks [op, op'] [b, c] = false) : ET T W X (.Compare a [op, op'] [b, c] pos) (tV (dCh dop dop' f g h)) := by
  obtain ⟨ta, pa, qa⟩ := ha
  obtain ⟨tb, pb, qb⟩ := hb
  obtain ⟨tc, pc, qc⟩ := hc
  refine ⟨_, pt_chain ho ho' pa pb pc hm, fun w δ σ Q o s hh => ?_⟩
  have h' := post_tV (r := dCh dop dop' f g h δ w.M) hh
  refine qa w δ σ _ o s (h'.bind fun d1 w1 v1 l1 o1 r1 h1 => ?_)
  refine qb w1 δ σ _ o1 (s.mono l1) (h1.bind fun d2 w2 v2 l2 o2 r2 h2 => ?_)
  refine hk w2 d1 d2 v1 v2 _ o2 (RelD.mono l2 _ _ r1) r2 (post_ofV (h2.bind fun d3 w3 v3 l3 o3 r3 h3 => ?_))
  cases d3 with
  | bl k =>
    unfold RelD at r3
    subst r3
    refine ⟨k, rfl, ?_⟩
    cases k with
    | true =>
      rw [if_pos rfl]
      refine qc w3 δ σ _ o3 (s.mono ((l1.trans l2).trans l3)) (h3.bind fun d4 w4 v4 l4 o4 r4 h4 => ?_)
      exact hk' w4 d2 d4 v2 v4 _ o4 (RelD.mono (l3.trans l4) _ _ r2) r4 (post_ofV h4)
    | false =>
      rw [if_neg Bool.false_ne_true]
      exact h3 w3 (.bl false) rfl (.refl _) o3 (by unfold RelD; rfl)
  | _ => exact h3.elim
/-! three signs in one chain -/
theorem EV.chain3 {op op' op2 : CmpOp} {r r' r2 : R2} {dop dop' dop2 : D → D → Mem → OV} (ho : OpR X (compareOp op) r) (hk : OpOk T X dop r) (ho' : OpR X (compareOp op') r') (hk' : OpOk T X dop' r') (ho2 : OpR X (compareOp op2) r2) (hk2 : OpOk T X dop2 r2)
    (ha : EV T W X a f) (hb : EV T W X b g) (hc : EV T W X c h) (hd : EV T W X d h')
    (hm : lastMarks [op, op', op2] [b, c, d] = false) : EV T W X (.Compare a [op, op', op2] [b, c, d] pos) (dCh3 dop dop' dop2 f g h h') := by
  obtain ⟨ta, pa, qa⟩ := ha
  obtain ⟨tb, pb, qb⟩ := hb
  obtain ⟨tc, pc, qc⟩ := hc
  obtain ⟨td, pd, qd⟩ := hd
  refine ⟨_, pe_three ho ho' ho2 pa pb pc pd hm, fun w δ σ Q o s hh => ?_⟩
  refine qa w δ σ _ o s (hh.bind fun d1 w1 v1 l1 o1 r1 h1 => ?_)
  refine qb w1 δ σ _ o1 (s.mono l1) (h1.bind fun d2 w2 v2 l2 o2 r2 h2 => ?_)
  refine hk w2 d1 d2 v1 v2 _ o2 (RelD.mono l2 _ _ r1) r2 (post_ofV (h2.bind fun d3 w3 v3 l3 o3 r3 h3 => ?_))
  cases d3 with
  | bl k =>
    unfold RelD at r3
    subst r3
    refine ⟨k, rfl, ?_⟩
    cases k with
    | true =>
      rw [if_pos rfl]
      refine qc w3 δ σ _ o3 (s.mono ((l1.trans l2).trans l3)) (h3.bind fun d4 w4 v4 l4 o4 r4 h4 => ?_)
      refine hk' w4 d2 d4 v2 v4 _ o4 (RelD.mono (l3.trans l4) _ _ r2) r4 (post_ofV (h4.bind fun d5 w5 v5 l5 o5 r5 h5 => ?_))
      cases d5 with
      | bl k2 =>
        unfold RelD at r5
        subst r5
        refine ⟨k2, rfl, ?_⟩
        cases k2 with
        | true =>
          rw [if_pos rfl]
          refine qd w5 δ σ _ o5 (s.mono ((((l1.trans l2).trans l3).trans l4).trans l5)) (h5.bind fun d6 w6 v6 l6 o6 r6 h6 => ?_)
          exact hk2 w6 d4 d6 v4 v6 _ o6 (RelD.mono (l5.trans l6) _ _ r4) r6 (post_ofV h6)
        | false =>
          rw [if_neg Bool.false_ne_true]
          exact h5 w5 (.bl false) rfl (.refl _) o5 (by unfold RelD; rfl)
      | _ => exact h5.elim
    | false =>
      rw [if_neg Bool.false_ne_true]
      exact h3 w3 (.bl false) rfl (.refl _) o3 (by unfold RelD; rfl)
  | _ => exact h3.elim
theorem ET.chain3 {op op' op2 : CmpOp} {r r' r2 : R2} {dop dop' dop2 : D → D → Mem → OV} (ho : OpR X (compareOp op) r) (hk : OpOk T X dop r) (ho' : OpR X (compareOp op') r') (hk' : OpOk T X dop' r') (ho2 : OpR X (compareOp op2) r2) (hk2 : OpOk T X dop2 r2)
    (ha : EV T W X a f) (hb : EV T W X b g) (hc : EV T W X c h) (hd : EV T W X d h')
    (hm : lastMarks [op, op', op2] [b, c, d] = false) : ET T W X (.Compare a [op, op', op2] [b, c, d] pos) (tV (dCh3 dop dop' dop2 f g h h')) := by
  obtain ⟨ta, pa, qa⟩ := ha
  obtain ⟨tb, pb, qb⟩ := hb
  obtain ⟨tc, pc, qc⟩ := hc
  obtain ⟨td, pd, qd⟩ := hd
  refine ⟨_, pt_three ho ho' ho2 pa pb pc pd hm, fun w δ σ Q o s hh0 => ?_⟩
  have hh := post_tV (r := dCh3 dop dop' dop2 f g h h' δ w.M) hh0
  refine qa w δ σ _ o s (hh.bind fun d1 w1 v1 l1 o1 r1 h1 => ?_)
  refine qb w1 δ σ _ o1 (s.mono l1) (h1.bind fun d2 w2 v2 l2 o2 r2 h2 => ?_)
  refine hk w2 d1 d2 v1 v2 _ o2 (RelD.mono l2 _ _ r1) r2 (post_ofV (h2.bind fun d3 w3 v3 l3 o3 r3 h3 => ?_))
  cases d3 with
  | bl k =>
    unfold RelD at r3
    subst r3
    refine ⟨k, rfl, ?_⟩
    cases k with
    | true =>
      rw [if_pos rfl]
      refine qc w3 δ σ _ o3 (s.mono ((l1.trans l2).trans l3)) (h3.bind fun d4 w4 v4 l4 o4 r4 h4 => ?_)
      refine hk' w4 d2 d4 v2 v4 _ o4 (RelD.mono (l3.trans l4) _ _ r2) r4 (post_ofV (h4.bind fun d5 w5 v5 l5 o5 r5 h5 => ?_))
      cases d5 with
      | bl k2 =>
        unfold RelD at r5
        subst r5
        refine ⟨k2, rfl, ?_⟩
        cases k2 with
        | true =>
          rw [if_pos rfl]
          refine qd w5 δ σ _ o5 (s.mono ((((l1.trans l2).trans l3).trans l4).trans l5)) (h5.bind fun d6 w6 v6 l6 o6 r6 h6 => ?_)
          exact hk2 w6 d4 d6 v4 v6 _ o6 (RelD.mono (l5.trans l6) _ _ r4) r6 (post_ofV h6)
        | false =>
          rw [if_neg Bool.false_ne_true]
          exact h5 w5 (.bl false) rfl (.refl _) o5 (by unfold RelD; rfl)
      | _ => exact h5.elim
    | false =>
      rw [if_neg Bool.false_ne_true]
      exact h3 w3 (.bl false) rfl (.refl _) o3 (by unfold RelD; rfl)
  | _ => exact h3.elim
/-! tests -/
theorem ET.val (ha : EV T W X e f) (he : ∀ whole, isTrue e X.env whole = (do let v ← whole; standAt e.pos; holding [v] (truthy v))) : ET T W X e (tV f) := by
  obtain ⟨ta, pa, qa⟩ := ha
  refine ⟨_, pt_val pa he, fun w δ σ Q o s h => ?_⟩
  exact qa w δ σ _ o s (post_tV (r := f δ w.M) h)
theorem ETW.and1 (ha : ET T W X a c0) : ETW T W X (.BoolOp .And [a] pos) c0 := let ⟨t, p, q⟩ := ha; ⟨t, pw_and1 p, q⟩
theorem ETW.or1 (ha : ET T W X a c0) : ETW T W X (.BoolOp .Or [a] pos) c0 := let ⟨t, p, q⟩ := ha; ⟨t, pw_or1 p, q⟩
theorem ETW.and {rest : List Expr} (ha : ET T W X a c0) (hb : ETW T W X (.BoolOp .And (b :: rest) pos) ct) : ETW T W X (.BoolOp .And (a :: b :: rest) pos) (tAnd c0 ct) := by
  obtain ⟨ta, pa, qa⟩ := ha
  obtain ⟨tb, pb, qb⟩ := hb
  refine ⟨_, pw_and pa pb, fun w δ σ Q o s h => ?_⟩
  refine qa w δ σ _ o s (h.bind fun d1 w1 v1 l1 o1 r1 h1 => ?_)
  cases (show d1 = v1 from r1)
  cases d1 with
  | true => rw [if_pos rfl]; exact qb w1 δ σ _ o1 (s.mono l1) h1
  | false => rw [if_neg Bool.false_ne_true]; exact h1 w1 false rfl (.refl _) o1 rfl
theorem ETW.or {rest : List Expr} (ha : ET T W X a c0) (hb : ETW T W X (.BoolOp .Or (b :: rest) pos) ct) : ETW T W X (.BoolOp .Or (a :: b :: rest) pos) (tOr c0 ct) := by
  obtain ⟨ta, pa, qa⟩ := ha
  obtain ⟨tb, pb, qb⟩ := hb
  refine ⟨_, pw_or pa pb, fun w δ σ Q o s h => ?_⟩
  refine qa w δ σ _ o s (h.bind fun d1 w1 v1 l1 o1 r1 h1 => ?_)
  cases (show d1 = v1 from r1)
  cases d1 with
  | true => rw [if_pos rfl]; exact h1 w1 true rfl (.refl _) o1 rfl
  | false => rw [if_neg Bool.false_ne_true]; exact qb w1 δ σ _ o1 (s.mono l1) h1
theorem ET.not (ha : ET T W X a c0) : ET T W X (.UnaryOp .Not a pos) (tNot c0) := by
  obtain ⟨ta, pa, qa⟩ := ha
  refine ⟨_, pt_not pa, fun w δ σ Q o s h => ?_⟩
  refine qa w δ σ _ o s (h.bind fun d1 w1 v1 l1 o1 r1 h1 => ?_)
  cases (show d1 = v1 from r1)
  exact h1 w1 _ rfl (.refl _) o1 rfl
/-- as values -/
theorem EV.one {op} (ha : EV T W X a f) : EV T W X (.BoolOp op [a] pos) f := let ⟨t, p, q⟩ := ha; ⟨t, pe_one p, q⟩
theorem EV.and {rest : List Expr} (ha : EV T W X a f) (hb : EV T W X (.BoolOp .And (b :: rest) pos) g) : EV T W X (.BoolOp .And (a :: b :: rest) pos) (dAnd f g) := by
  obtain ⟨ta, pa, qa⟩ := ha
  obtain ⟨tb, pb, qb⟩ := hb
  refine ⟨_, pe_and pa pb, fun w δ σ Q o s h => ?_⟩
  refine qa w δ σ _ o s (h.bind fun d1 w1 v1 l1 o1 r1 h1 => ?_)
  cases d1 with
  | bl k =>
    unfold RelD at r1
    subst r1
    refine ⟨k, rfl, ?_⟩
    cases k with
    | true => rw [if_pos rfl]; exact qb w1 δ σ _ o1 (s.mono l1) h1
    | false => rw [if_neg Bool.false_ne_true]; exact h1 w1 (.bl false) rfl (.refl _) o1 (by unfold RelD; rfl)
  | _ => exact h1.elim
theorem EV.or {rest : List Expr} (ha : EV T W X a f) (hb : EV T W X (.BoolOp .Or (b :: rest) pos) g) : EV T W X (.BoolOp .Or (a :: b :: rest) pos) (dOr f g) := by
  obtain ⟨ta, pa, qa⟩ := ha
  obtain ⟨tb, pb, qb⟩ := hb
  refine ⟨_, pe_or pa pb, fun w δ σ Q o s h => ?_⟩
  refine qa w δ σ _ o s (h.bind fun d1 w1 v1 l1 o1 r1 h1 => ?_)
  cases d1 with
  | bl k =>
    unfold RelD at r1
    subst r1
    refine ⟨k, rfl, ?_⟩
    cases k with
    | true => rw [if_pos rfl]; exact h1 w1 (.bl true) rfl (.refl _) o1 (by unfold RelD; rfl)
    | false => rw [if_neg Bool.false_ne_true]; exact qb w1 δ σ _ o1 (s.mono l1) h1
  | _ => exact h1.elim
theorem EV.not (ha : EV T W X a f) : EV T W X (.UnaryOp .Not a pos) (dNot f) := by
  obtain ⟨ta, pa, qa⟩ := ha
  refine ⟨_, pe_not pa, fun w δ σ Q o s h => ?_⟩
  refine qa w δ σ _ o s (h.bind fun d1 w1 v1 l1 o1 r1 h1 => ?_)
  cases d1 with
  | bl k => unfold RelD at r1; subst r1; exact ⟨k, rfl, h1 w1 _ rfl (.refl _) o1 (by unfold RelD; rfl)⟩
  | _ => exact h1.elim
theorem EV.ite (hc : ET T W X c c0) (ha : EV T W X a f) (hb : EV T W X b g) : EV T W X (.IfExp c a b pos) (dIf c0 f g) := by
  obtain ⟨tc, pc, qc⟩ := hc
  obtain ⟨ta, pa, qa⟩ := ha
  obtain ⟨tb, pb, qb⟩ := hb
  refine ⟨_, pe_ifExp pc pa pb, fun w δ σ Q o s h => ?_⟩
  refine qc w δ σ _ o s (h.bind fun d1 w1 v1 l1 o1 r1 h1 => ?_)
  cases (show d1 = v1 from r1)
  cases d1 with
  | true => rw [if_pos rfl]; exact qa w1 δ σ _ o1 (s.mono l1) h1
  | false => rw [if_neg Bool.false_ne_true]; exact qb w1 δ σ _ o1 (s.mono l1) h1
/-! arguments, displays -/
theorem EA.nil : EA T W X [] aNil := ⟨_, pa_nil, fun w δ σ Q o s h => h w [] rfl (.refl _) o .nil⟩
theorem EA.cons (ha : EV T W X e f) (hr : EA T W X es ga) (hs : starEach (e :: es) X.env = (false, eval e X.env) :: starEach es X.env) : EA T W X (e :: es) (aCons f ga) := by
  obtain ⟨ta, pa, qa⟩ := ha
  obtain ⟨tb, pb, qb⟩ := hr
  refine ⟨_, pa_cons pa pb hs, fun w δ σ Q o s h => ?_⟩
  refine qa w δ σ _ o s (h.bind fun d1 w1 v1 l1 o1 r1 h1 => ?_)
  refine qb w1 δ σ _ o1 (s.mono l1) (h1.bind fun d2 w2 v2 l2 o2 r2 h2 => ?_)
  exact h2 w2 _ rfl (.refl _) o2 (.cons (RelD.mono l2 _ _ r1) r2)
theorem EV.tup {k} (h : EA T W X es ga) : EV T W X (.Tuple es k pos) (dTup ga) := by
  obtain ⟨ta, pa, qa⟩ := h
  refine ⟨_, pe_tup pa, fun w δ σ Q o s h => ?_⟩
  refine qa w δ σ _ o s (h.bind fun d1 w1 v1 l1 o1 r1 h1 => ?_)
  split at h1
  · rename_i hz
    refine ⟨by rw [r1.length]; exact hz, PostV.tup (R := rc T X) (l := d1) (fun w2 v e l o r => h1 w2 v e l o r) o1 r1⟩
  · exact h1.elim
theorem EV.lst (h : EA T W X es ga) : EV T W X (.List es pos) (dLst ga) := by
  obtain ⟨ta, pa, qa⟩ := h
  refine ⟨_, pe_lst pa, fun w δ σ Q o s h => ?_⟩
  refine qa w δ σ _ o s (h.bind fun d1 w1 v1 l1 o1 r1 h1 => ?_)
  split at h1
  · rename_i hz
    refine ⟨by rw [r1.length]; exact hz, PostV.lst (R := rc T X) (l := d1) (fun w2 v e l o r => h1 w2 v e l o r) o1 r1⟩
  · exact h1.elim
/-- a call of a built-in by values -/
def BlOk (T : TB) (X : Cx) (op : List D → Mem → OV) (r : List V → Hp → VK → Prop) : Prop :=
  ∀ w l xs Q, w.Ok (rc T X) → RelL (rc T X) w l xs → PostV (rc T X) w Q (op l w.M) → r xs w.H Q
theorem EV.callB {id : String} {r : List V → Hp → VK → Prop} {dop : List D → Mem → OV} {p : Pos} (hc : CallR X (.builtin id) r) (hk : BlOk T X dop r) (hg : Gl X x) (hm : X.mg x = none) (hv : bootBuiltins x = some (.builtin id)) (ha : EA T W X (e :: es) ga)
    (hn : x ≠ "__name__") (hdb : (x == ("__debug__" : Str)) = false) (he : starEach (e :: es) X.env = (false, eval e X.env) :: starEach es X.env) (hpl : (backTo pos (starEach es X.env)).any (·.1) = false) : EV T W X (.Call (.Name x p) (e :: es) [] pos) (dBlt dop ga) := by
  obtain ⟨ta, pa, qa⟩ := ha
  refine ⟨_, pe_callB hc hg hm hv pa hn hdb he hpl, fun w δ σ Q o s h => ?_⟩
  exact qa w δ σ _ o s (h.bind fun d1 w1 v1 l1 o1 r1 h1 => hk w1 d1 v1 Q o1 r1 (post_ofV h1))
theorem EV.callTy {id : String} {r : List V → Hp → VK → Prop} {dop : List D → Mem → OV} {p : Pos} (hc : CallR X (.type id) r) (hk : BlOk T X dop r) (hg : Gl X x) (hm : X.mg x = none) (hv : bootBuiltins x = some (.type id)) (ha : EA T W X (e :: es) ga)
    (hn : x ≠ "__name__") (hdb : (x == ("__debug__" : Str)) = false) (he : starEach (e :: es) X.env = (false, eval e X.env) :: starEach es X.env) (hpl : (backTo pos (starEach es X.env)).any (·.1) = false) : EV T W X (.Call (.Name x p) (e :: es) [] pos) (dBlt dop ga) := by
  obtain ⟨ta, pa, qa⟩ := ha
  refine ⟨_, pe_callTy hc hg hm hv pa hn hdb he hpl, fun w δ σ Q o s h => ?_⟩
  exact qa w δ σ _ o s (h.bind fun d1 w1 v1 l1 o1 r1 h1 => hk w1 d1 v1 Q o1 r1 (post_ofV h1))
end
end Pd
namespace Pd
open PySem PySem.Spec PyProof.Rows L2
theorem tmul_same (l : Addr) (its : Array Value) (n : Nat) (dd : Option Addr) (sl : Array (Option Value)) (x : Int) (u : Tok) (z0 : (decide (x < -(2 ^ 63)) || decide (x ≥ 2 ^ 63)) = false) (z1 : (its.isEmpty || x == 1) = true) :
    Meets (Builtin.«tuple.__mul__» ⟨[.ref l, .int x u], []⟩) (fun _ R s => s.heap.get? l = some { cls := .type "tuple", dict := dd, data := .seq its n, slots := sl } ∧ R (.ok (.ret (Value.ref l))) s) :=
  .of_wp fun prog w A R s h => by
    obtain ⟨hp, g, d, tk, os⟩ := s
    obtain ⟨hl, h⟩ := h
    have f1 := AutoSeq1.idx_int
    wp_walk using wpAny_loadPart' hl
    repeat (first
      | (refine wpAny_ite_false (decide_eq_false (by rw [z0]; exact Bool.false_ne_true)) ?_; wp_walk using wpAny_loadPart' hl)
      | (refine wpAny_ite_true (decide_eq_true z1) ?_; wp_walk using wpAny_loadPart' hl))
    exact ⟨_, rfl, h⟩
theorem tmul_none (l : Addr) (its : Array Value) (n : Nat) (dd : Option Addr) (sl : Array (Option Value)) (x : Int) (u : Tok) (z0 : (decide (x < -(2 ^ 63)) || decide (x ≥ 2 ^ 63)) = false) (z1 : (its.isEmpty || x == 1) = false) (z2 : (decide (x ≤ 0) || its.isEmpty) = true) :
    Meets (Builtin.«tuple.__mul__» ⟨[.ref l, .int x u], []⟩) (fun _ R s => s.heap.get? l = some { cls := .type "tuple", dict := dd, data := .seq its n, slots := sl } ∧
      R (.ok (.ret (Value.ref s.heap.objs.size))) { s with heap := s.heap.push { cls := Value.type "tuple", data := Data.seq #[] }, toks := s.toks }) :=
  .of_wp fun prog w A R s h => by
    obtain ⟨hp, g, d, tk, os⟩ := s
    obtain ⟨hl, h⟩ := h
    have f1 := AutoSeq1.idx_int
    wp_walk using wpAny_loadPart' hl
    repeat (first
      | (refine wpAny_ite_false (decide_eq_false (by rw [z0]; exact Bool.false_ne_true)) ?_; wp_walk using wpAny_loadPart' hl)
      | (refine wpAny_ite_false (decide_eq_false (by rw [z1]; exact Bool.false_ne_true)) ?_; wp_walk using wpAny_loadPart' hl)
      | (refine wpAny_ite_true (decide_eq_true z2) ?_; wp_walk using wpAny_loadPart' hl))
    exact ⟨_, rfl, h⟩
def rRepF (K : PySem.W.Frag) : R2 := fun x y H Q => ∃ l k xs, x = .ref l ∧ y = .int k ∧ SqT K H l xs ∧ -(2 ^ 63) ≤ k ∧ k < 2 ^ 63 ∧ xs.length * k.toNat ≤ 1000000 ∧
  ((xs = [] ∨ k = 1) → Q (.ref l) H) ∧ (¬ (xs = [] ∨ k = 1) → ∀ p, H p = none → Q (.ref p) (upd H p (.tup (List.replicate k.toNat xs).flatten)))
theorem op_repF {X : Cx} : OpR X (binaryOp .Mult) (rRepF X.K) := by
  intro pins s σ H x y v u Q I rx ry hh
  obtain ⟨l, k, xs, rfl, rfl, hT, k1, k2, kz, q1, q2⟩ := hh
  cases rx
  obtain ⟨t, rfl⟩ := ry
  obtain ⟨its, r, ⟨⟨cls, dd, data, sl⟩, ho, hc, n, hd⟩, hs⟩ := I.tuple hT
  simp only at hc hd
  subst hc hd
  have le : its.length = xs.length := r.length.symm
  have z0 : (decide (k < -(2 ^ 63)) || decide (k ≥ 2 ^ 63)) = false := by
    rw [decide_eq_false (by omega), decide_eq_false (by omega)] <;> rfl
  have go : ∀ {Q' : Value → Shared → Prop}, wpAny (model X.prog X.w) X.A (call (.builtin "tuple.__mul__") [.ref l, .int k t]) Q' X.xe s → wpAny (model X.prog X.w) X.A (binaryOp .Mult (.ref l) (.int k t)) Q' X.xe s := fun {Q'} h =>
    wpAny_binaryOp_repeat_ref (U := "int") (T := "tuple") (by decide) ⟨_, ho, rfl⟩ (fun s' => typeIs_int s' k t) noFill_tuple_mul F.fills_int_mul F.slot_int_rmul repeat_tuple F.slot_int_index.lookup
      (call_meets F.slot_int_rmul (typeIs_int s k t) F.entry_int_rmul (F.args_int_rmul_2 _ _) (int_rmul_tuple k t l its.toArray n dd sl) ⟨ho, rfl, ⟨_, ho, rfl⟩, h⟩)
  have ei : its.toArray.isEmpty = xs.isEmpty := by
    cases its with
    | nil => cases xs with
      | nil => rfl
      | cons a b => simp at le
    | cons a b => cases xs with
      | nil => simp at le
      | cons a b => rfl
  have slot := PySem.F.slot_tuple_mul
  by_cases c : xs = [] ∨ k = 1
  · have z1 : (its.toArray.isEmpty || k == 1) = true := by
      rw [ei]
      rcases c with c | c
      · subst c; rfl
      · subst c; simp
    exact go (call_meets slot ⟨_, ho, rfl⟩ F.entry_tuple_mul (F.args_tuple_mul_2 _ _) (tmul_same l its.toArray n dd sl k t z0 z1) ⟨ho, .ref l, H, I, rfl, q1 c⟩)
  · have c' := not_or.mp c
    have hx : xs.isEmpty = false := by
      cases xs with
      | nil => exact absurd rfl c'.1
      | cons a b => rfl
    have z1 : (its.toArray.isEmpty || k == 1) = false := by
      rw [ei, hx, Bool.false_or]
      exact beq_eq_false_iff_ne.mpr c'.2
    by_cases hk : k ≤ 0
    · have z2 : (decide (k ≤ 0) || its.toArray.isEmpty) = true := by rw [decide_eq_true hk]; rfl
      refine go (call_meets slot ⟨_, ho, rfl⟩ F.entry_tuple_mul (F.args_tuple_mul_2 _ _) (tmul_none l its.toArray n dd sl k t z0 z1 z2) ⟨ho, ?_⟩)
      have e0 : k.toNat = 0 := by omega
      have q := q2 c s.heap.objs.size (I.hok.fresh (Nat.le_refl _))
      rw [e0] at q
      refine ⟨.ref s.heap.objs.size, _, I.laid (t' := s.toks) (o := .tup []) (fun b ob q => Heap.get?_push_of_some _ q) (Nat.le_refl _) ?_, rfl, q⟩
      exact ⟨Nat.zero_le _, [], .nil, IsTup.new _ _⟩
    · have hs0 : its.toArray.size = xs.length := by rw [List.size_toArray, le]
      have ek : ((k.toNat : Nat) : Int) = k := by omega
      have em : ((its.toArray.size : Nat) : Int) * k ≤ 1000000 := by
        rw [hs0, ← ek, ← Int.natCast_mul]; omega
      have fl : (List.replicate k.toNat its).flatten.length ≤ sizeLine := by
        rw [PyProof.Rows.lm_len_rep_flat, le, sizeLine_eq, Nat.mul_comm]; omega
      have z2 : (decide (k ≤ 0) || its.toArray.isEmpty) = false := by
        rw [ei, hx, Bool.or_false]; exact decide_eq_false hk
      have z4 : Builtin.Tuple.tupleTooMany (((its.toArray.size : Nat) : Int) * k) = false := by
        unfold Builtin.Tuple.tupleTooMany
        rw [sizeLine_eq]
        exact decide_eq_false (by omega)
      refine go (call_meets slot ⟨_, ho, rfl⟩ F.entry_tuple_mul (F.args_tuple_mul_2 _ _) (tuple_mulW l its.toArray n dd sl k t z0 z1 z2 (by omega) z4 (by rw [size_rep, List.size_toArray]; exact fl)) ⟨ho, ?_⟩)
      rw [size_rep]
      refine ⟨.ref s.heap.objs.size, _, I.laid (t' := s.toks) (o := .tup (List.replicate k.toNat xs).flatten) (fun b ob q => Heap.get?_push_of_some _ q) (Nat.le_refl _) ?_, rfl, q2 c _ (I.hok.fresh (Nat.le_refl _))⟩
      exact ⟨by rw [PyProof.Rows.lm_len_rep_flat, sizeLine_eq, Nat.mul_comm]; omega, _, r.rep k.toNat, IsTup.new _ _⟩
end Pd
namespace Pd
open PySem PySem.Spec PyProof.Rows L2
/-! ### the store read -/
def seqOf (M : Mem) (n : Nat) : Option (List D) := match M[n]? with
  | some (.lst l) => some l
  | some (.fz l) => some l
  | _ => none
def lstOf (M : Mem) (n : Nat) : Option (List D) := match M[n]? with
  | some (.lst l) => some l
  | _ => none
section
variable {R : RC} {w : Wd} {n : Nat} {l : List D}
theorem Wd.Ok.lst (o : w.Ok R) (h : lstOf w.M n = some l) : n < w.M.length ∧ w.M[n]? = some (.lst l) ∧ ∃ xs, w.H (w.ρ n) = some (.lst xs) ∧ RelL R w l xs := by
  unfold lstOf at h
  split at h
  · rename_i l' e
    cases h
    obtain ⟨u, h1, ⟨xs, e2, r⟩, _⟩ := o.at_ n _ e
    subst e2
    exact ⟨o.lt e, e, xs, h1, r⟩
  · cases h
theorem Wd.Ok.seq (o : w.Ok R) (h : seqOf w.M n = some l) : n < w.M.length ∧ ∃ xs, SqL R.K w.H (w.ρ n) xs ∧ RelL R w l xs ∧ ((w.H (w.ρ n) = some (.lst xs)) ∨ ∃ ob, w.H (w.ρ n) = some (.frz ob (.lst xs))) := by
  unfold seqOf at h
  split at h
  · rename_i l' e
    cases h
    obtain ⟨u, h1, ⟨xs, e2, r⟩, _⟩ := o.at_ n _ e
    subst e2
    exact ⟨o.lt e, xs, .inl (.inl h1), r, .inl h1⟩
  · rename_i l' e
    cases h
    obtain ⟨u, h1, ⟨ob, xs, e2, r⟩, _⟩ := o.at_ n _ e
    subst e2
    exact ⟨o.lt e, xs, .inl (.inr ⟨ob, h1⟩), r, .inr ⟨ob, h1⟩⟩
  · cases h
end
theorem RelD.ref {R : RC} {w : Wd} {n : Nat} {v : V} (r : RelD R w (.ref n) v) : n < w.M.length ∧ v = .ref (w.ρ n) := by unfold RelD at r; exact r
theorem RelD.mkInt {R : RC} {w : Wd} {i : Int} : RelD R w (.int i) (.int i) := by unfold RelD; rfl
theorem RelD.mkBl {R : RC} {w : Wd} {i : Bool} : RelD R w (.bl i) (.bl i) := by unfold RelD; rfl
theorem RelD.mkStr {R : RC} {w : Wd} {i : Str} : RelD R w (.str i) (.str i) := by unfold RelD; rfl
theorem RelD.mkNon {R : RC} {w : Wd} : RelD R w .non .non := by unfold RelD; rfl
theorem RelL.ints {R : RC} {w : Wd} : ∀ {ns : List Int} {xs : List V}, RelL R w (ns.map D.int) xs → xs = ns.map V.int
  | [], _, r => by unfold RelL at r; exact r
  | n :: ns, _, r => by
    rw [List.map_cons] at r
    unfold RelL at r
    obtain ⟨x, q, e, a, b⟩ := r
    subst e
    unfold RelD at a
    subst a
    rw [RelL.ints b, List.map_cons]
theorem RelL.mkInts {R : RC} {w : Wd} : ∀ (ns : List Int), RelL R w (ns.map D.int) (ns.map V.int)
  | [] => .nil
  | n :: ns => .cons .mkInt (RelL.mkInts ns)
theorem RelL.bls {R : RC} {w : Wd} : ∀ {ns : List Bool} {xs : List V}, RelL R w (ns.map D.bl) xs → xs = ns.map V.bl
  | [], _, r => by unfold RelL at r; exact r
  | n :: ns, _, r => by
    rw [List.map_cons] at r
    unfold RelL at r
    obtain ⟨x, q, e, a, b⟩ := r
    subst e
    unfold RelD at a
    subst a
    rw [RelL.bls b, List.map_cons]
/-- a list of ints, bools -/
def intsD : List D → Option (List Int)
  | [] => some []
  | .int i :: r => (intsD r).map (i :: ·)
  | _ => none
theorem intsD_map : ∀ {l : List D} {ns : List Int}, intsD l = some ns → l = ns.map D.int
  | [], ns, h => by cases h; rfl
  | d :: r, ns, h => by
    cases d with
    | int i =>
      unfold intsD at h
      cases e : intsD r with
      | none => rw [e] at h; cases h
      | some m =>
        rw [e] at h
        cases h
        rw [intsD_map e, List.map_cons]
    | _ => cases h
theorem intsD_of : ∀ (ns : List Int), intsD (ns.map D.int) = some ns
  | [] => rfl
  | n :: r => by rw [List.map_cons]; unfold intsD; rw [intsD_of r]; rfl
def blsD : List D → Option (List Bool)
  | [] => some []
  | .bl i :: r => (blsD r).map (i :: ·)
  | _ => none
theorem blsD_map : ∀ {l : List D} {ns : List Bool}, blsD l = some ns → l = ns.map D.bl
  | [], ns, h => by cases h; rfl
  | d :: r, ns, h => by
    cases d with
    | bl i =>
      unfold blsD at h
      cases e : blsD r with
      | none => rw [e] at h; cases h
      | some m =>
        rw [e] at h
        cases h
        rw [blsD_map e, List.map_cons]
    | _ => cases h
theorem blsD_of : ∀ (ns : List Bool), blsD (ns.map D.bl) = some ns
  | [] => rfl
  | n :: r => by rw [List.map_cons]; unfold blsD; rw [blsD_of r]; rfl
/-! ### data, for == -/
def pyL (f : D → Option PyData) : List D → Option (List PyData)
  | [] => some []
  | d :: r => match f d, pyL f r with
    | some p, some q => some (p :: q)
    | _, _ => none
def pyD (M : Mem) : Nat → D → Option PyData
  | 0, _ => none
  | _ + 1, .non => some .none
  | _ + 1, .bl b => some (.bool b)
  | _ + 1, .int i => some (.int i)
  | _ + 1, .str s => some (.str s)
  | n + 1, .tup l => (pyL (pyD M n) l).map .tuple
  | n + 1, .ref k => match seqOf M k with
    | some l => (pyL (pyD M n) l).map .list
    | none => none
  | _ + 1, .gl _ => none
  | _ + 1, .ty _ => none
  | _ + 1, .exn _ _ => none
theorem pyL_ok {R : RC} {w : Wd} {f : D → Option PyData} (hf : ∀ d p v, f d = some p → RelD R w d v → Dp R.K w.H v p) : ∀ (l : List D) (ps : List PyData) (xs : List V), pyL f l = some ps → RelL R w l xs → DpAll R.K w.H xs ps
  | [], ps, xs, h, r => by
    unfold RelL at r
    subst r
    cases h
    exact .nil
  | d :: l, ps, xs, h, r => by
    unfold RelL at r
    obtain ⟨x, q, e, a, b⟩ := r
    subst e
    unfold pyL at h
    split at h
    · rename_i p q' e1 e2
      cases h
      exact .cons (hf d p x e1 a) (pyL_ok hf l q' q e2 b)
    · cases h
theorem pyD_ok {R : RC} {w : Wd} (o : w.Ok R) : ∀ (n : Nat) (d : D) (p : PyData) (v : V), pyD w.M n d = some p → RelD R w d v → Dp R.K w.H v p
  | 0, _, _, _, h, _ => by unfold pyD at h; cases h
  | n + 1, .non, p, v, h, r => by unfold pyD at h; cases h; unfold RelD at r; subst r; exact .non
  | n + 1, .bl b, p, v, h, r => by unfold pyD at h; cases h; unfold RelD at r; subst r; exact .bl b
  | n + 1, .int b, p, v, h, r => by unfold pyD at h; cases h; unfold RelD at r; subst r; exact .int b
  | n + 1, .str b, p, v, h, r => by unfold pyD at h; cases h; unfold RelD at r; subst r; exact .str b
  | n + 1, .gl _, _, _, h, _ => by unfold pyD at h; cases h
  | n + 1, .ty _, _, _, h, _ => by unfold pyD at h; cases h
  | n + 1, .exn _ _, _, _, h, _ => by unfold pyD at h; cases h
  | n + 1, .tup l, p, v, h, r => by
    unfold pyD at h
    cases e : pyL (pyD w.M n) l with
    | none => rw [e] at h; cases h
    | some ps =>
      rw [e] at h
      cases h
      unfold RelD at r
      obtain ⟨a, xs, e2, s, t⟩ := r
      subst e2
      exact .tup s (pyL_ok (pyD_ok o n) l ps xs e t)
  | n + 1, .ref k, p, v, h, r => by
    unfold pyD at h
    cases e0 : seqOf w.M k with
    | none => rw [e0] at h; cases h
    | some l =>
      rw [e0] at h
      cases e : pyL (pyD w.M n) l with
      | none => simp only [e] at h; cases h
      | some ps =>
        simp only [e] at h
        cases h
        obtain ⟨_, xs, s, t, _⟩ := o.seq e0
        obtain ⟨_, e2⟩ := r.ref
        subst e2
        exact .lst s (pyL_ok (pyD_ok o n) l ps xs e t)
def FU : Nat := 20
def dEqB (M : Mem) (a b : D) : Option Bool := match pyD M FU a, pyD M FU b with
  | some p, some q => if SeqAt.shaped p && SeqAt.shaped q then some (PyData.eqv p q) else none
  | _, _ => none
def oEq (a b : D) (M : Mem) : OV := (dEqB M a b).map fun k => (.bl k, M)
def oNe (a b : D) (M : Mem) : OV := (dEqB M a b).map fun k => (.bl (!k), M)
theorem dEqB_ok {R : RC} {w : Wd} (o : w.Ok R) {a b : D} {k : Bool} {x y : V} (h : dEqB w.M a b = some k) (ra : RelD R w a x) (rb : RelD R w b y) :
    ∃ p q, Dp R.K w.H x p ∧ Dp R.K w.H y q ∧ SeqAt.shaped p = true ∧ SeqAt.shaped q = true ∧ PyData.eqv p q = k := by
  unfold dEqB at h
  split at h
  · rename_i p q e1 e2
    split at h
    · rename_i hs
      cases h
      have hs' := Bool.and_eq_true_iff.mp hs
      exact ⟨p, q, pyD_ok o _ a p x e1 ra, pyD_ok o _ b q y e2 rb, hs'.1, hs'.2, rfl⟩
    · cases h
  · cases h
section
variable {T : TB} {X : Cx}
theorem ok_eq : OpOk T X oEq (rEqD X.K) := fun w a b x y Q o ra rb h => by
  unfold oEq at h
  cases e : dEqB w.M a b with
  | none => rw [e] at h; exact h.elim
  | some k =>
    rw [e] at h
    obtain ⟨p, q, d1, d2, s1, s2, e3⟩ := dEqB_ok o e ra rb
    exact ⟨p, q, d1, d2, s1, s2, by rw [e3]; exact PostV.val h o .mkBl⟩
theorem ok_ne : OpOk T X oNe (rNeD X.K) := fun w a b x y Q o ra rb h => by
  unfold oNe at h
  cases e : dEqB w.M a b with
  | none => rw [e] at h; exact h.elim
  | some k =>
    rw [e] at h
    obtain ⟨p, q, d1, d2, s1, s2, e3⟩ := dEqB_ok o e ra rb
    exact ⟨p, q, d1, d2, s1, s2, by rw [e3]; exact PostV.val h o .mkBl⟩
/-! ### ints -/
def oInt (g : Int → Int → Option D) (a b : D) (M : Mem) : OV := match a, b with
  | .int i, .int j => (g i j).map fun d => (d, M)
  | _, _ => none
theorem oInt_ok {g : Int → Int → Option D} {C : Int → Int → Prop} {gv : Int → Int → V} (hg : ∀ i j d, g i j = some d → C i j ∧ ∀ R w, RelD R w d (gv i j)) : OpOk T X (oInt g) (rI C gv) := fun w a b x y Q o ra rb h => by
  cases a with
  | int i =>
    cases b with
    | int j =>
      unfold RelD at ra rb
      subst ra
      subst rb
      have h' : PostV (rc T X) w Q ((g i j).map fun d => (d, w.M)) := h
      cases e : g i j with
      | none => rw [e] at h'; exact h'.elim
      | some d =>
        rw [e] at h'
        exact ⟨i, j, rfl, rfl, (hg i j d e).1, PostV.val h' o ((hg i j d e).2 _ _)⟩
    | _ => exact h.elim
  | _ => exact h.elim
theorem rI0_of {f : Value → Value → Sem Value} {g : Int → Int → V} (h : OpR X f (rI0 g)) : OpR X f (rI (fun _ _ => True) g) := fun pins s σ H x y v u Q I r1 r2 ⟨i, j, e1, e2, _, q⟩ => h pins s σ H x y v u Q I r1 r2 ⟨i, j, e1, e2, q⟩
def oSub : D → D → Mem → OV := oInt fun i j => some (.int (i - j))
def oLt : D → D → Mem → OV := oInt fun i j => some (.bl (decide (i < j)))
def oLe : D → D → Mem → OV := oInt fun i j => some (.bl (decide (i ≤ j)))
def oGt : D → D → Mem → OV := oInt fun i j => some (.bl (decide (j < i)))
def oGe : D → D → Mem → OV := oInt fun i j => some (.bl (decide (j ≤ i)))
def oMod : D → D → Mem → OV := oInt fun i j => if 0 < j then some (.int (i % j)) else none
def oFdiv : D → D → Mem → OV := oInt fun i j => if 0 < j ∧ j.natAbs.log2 < 9000 then some (.int (i / j)) else none
def oPow : D → D → Mem → OV := oInt fun i j => if 0 ≤ j ∧ j ≤ 1000000 ∧ i.natAbs < 2 ^ 64 then some (.int (i ^ j.toNat)) else none
theorem ok_sub : OpOk T X oSub (rI (fun _ _ => True) fun i j => .int (i - j)) := oInt_ok fun i j d e => by cases e; exact ⟨trivial, fun _ _ => .mkInt⟩
theorem ok_lt : OpOk T X oLt (rI (fun _ _ => True) fun i j => .bl (decide (i < j))) := oInt_ok fun i j d e => by cases e; exact ⟨trivial, fun _ _ => .mkBl⟩
theorem ok_le : OpOk T X oLe (rI (fun _ _ => True) fun i j => .bl (decide (i ≤ j))) := oInt_ok fun i j d e => by cases e; exact ⟨trivial, fun _ _ => .mkBl⟩
theorem ok_gt : OpOk T X oGt (rI (fun _ _ => True) fun i j => .bl (decide (j < i))) := oInt_ok fun i j d e => by cases e; exact ⟨trivial, fun _ _ => .mkBl⟩
theorem ok_ge : OpOk T X oGe (rI (fun _ _ => True) fun i j => .bl (decide (j ≤ i))) := oInt_ok fun i j d e => by cases e; exact ⟨trivial, fun _ _ => .mkBl⟩
theorem ok_mod : OpOk T X oMod (rI (fun _ j => 0 < j) fun i j => .int (i % j)) := oInt_ok fun i j d e => by
  split at e
  · cases e; exact ⟨by assumption, fun _ _ => .mkInt⟩
  · cases e
theorem ok_fdiv : OpOk T X oFdiv (rI CDivW fun i j => .int (i / j)) := oInt_ok fun i j d e => by
  split at e
  · cases e; exact ⟨by assumption, fun _ _ => .mkInt⟩
  · cases e
theorem ok_pow : OpOk T X oPow (rI CPow fun i j => .int (i ^ j.toNat)) := oInt_ok fun i j d e => by
  split at e
  · cases e; exact ⟨by assumption, fun _ _ => .mkInt⟩
  · cases e
/-! ### +, * -/
theorem OpOk.or {op : D → D → Mem → OV} {r r' : R2} (h : ∀ w a b x y Q, w.Ok (rc T X) → RelD (rc T X) w a x → RelD (rc T X) w b y → PostV (rc T X) w Q (op a b w.M) → r x y w.H Q ∨ r' x y w.H Q) :
    OpOk T X op (fun x y H Q => r x y H Q ∨ r' x y H Q) := h
def oAdd (a b : D) (M : Mem) : OV := match a, b with
  | .int i, .int j => some (.int (i + j), M)
  | .int i, .bl k => some (.int (i + (if k then 1 else 0)), M)
  | .str x, .str y => if x.length + y.length ≤ sizeLine then some (.str (x ++ y), M) else none
  | .tup l, .tup m => if l.length + m.length ≤ sizeLine then some (.tup (l ++ m), M) else none
  | .ref i, .ref j => match lstOf M i, lstOf M j with
    | some l, some m => if l.length + m.length ≤ sizeLine then some (.ref M.length, M ++ [.lst (l ++ m)]) else none
    | _, _ => none
  | _, _ => none
abbrev rAddS : R2 := fun x y H Q => ∃ i j, x = .str i ∧ y = .str j ∧ i.length + j.length ≤ sizeLine ∧ Q (.str (i ++ j)) H
abbrev rAddB : R2 := fun x y H Q => ∃ i k, x = .int i ∧ y = .bl k ∧ Q (.int (i + b2i k)) H
def rPlus (K : PySem.W.Frag) : R2 := fun x y H Q => rI0 (fun i j => .int (i + j)) x y H Q ∨ rAddB x y H Q ∨ rAddS x y H Q ∨ rCatA K x y H Q ∨ rCat x y H Q
theorem op_plus : OpR X (binaryOp .Add) (rPlus X.K) := op_add.or (op_add_ib.or (op_add_str.or (op_catA.or op_cat)))
theorem RelD.tupI {R : RC} {w : Wd} {l : List D} {v : V} (r : RelD R w (.tup l) v) : ∃ a xs, v = .ref a ∧ SqT R.K w.H a xs ∧ RelL R w l xs := by unfold RelD at r; exact r
theorem ok_add : OpOk T X oAdd (rPlus X.K) := fun w a b x y Q o ra rb h => by
  cases a with
  | int i =>
    cases b with
    | int j =>
      unfold RelD at ra rb
      subst ra
      subst rb
      exact .inl ⟨i, j, rfl, rfl, PostV.val h o .mkInt⟩
    | bl k =>
      unfold RelD at ra rb
      subst ra
      subst rb
      exact .inr (.inl ⟨i, k, rfl, rfl, PostV.val h o (by cases k <;> exact .mkInt)⟩)
    | _ => exact h.elim
  | str i =>
    cases b with
    | str j =>
      unfold RelD at ra rb
      subst ra
      subst rb
      have h' : PostV (rc T X) w Q (if i.length + j.length ≤ sizeLine then some (.str (i ++ j), w.M) else none) := h
      split at h'
      · exact .inr (.inr (.inl ⟨i, j, rfl, rfl, by assumption, PostV.val h' o .mkStr⟩))
      · exact h'.elim
    | _ => exact h.elim
  | tup l =>
    cases b with
    | tup m =>
      obtain ⟨p, xs, e1, s1, r1⟩ := ra.tupI
      obtain ⟨q, ys, e2, s2, r2⟩ := rb.tupI
      subst e1
      subst e2
      have h' : PostV (rc T X) w Q (if l.length + m.length ≤ sizeLine then some (.tup (l ++ m), w.M) else none) := h
      split at h'
      · rename_i hz
        refine .inr (.inr (.inr (.inl ⟨p, q, xs, ys, rfl, rfl, s1, s2, by rw [r1.length, r2.length]; exact hz, fun e => ?_, fun _ e => ?_, fun _ _ => PostV.tup h' o (r1.app r2)⟩)))
        · subst e
          have hl : l = [] := List.eq_nil_of_length_eq_zero (by rw [← r1.length]; rfl)
          subst hl
          exact PostV.val h' o rb
        · subst e
          have hm : m = [] := List.eq_nil_of_length_eq_zero (by rw [← r2.length]; rfl)
          subst hm
          rw [List.append_nil] at h'
          exact PostV.val h' o ra
      · exact h'.elim
    | _ => exact h.elim
  | ref i =>
    cases b with
    | ref j =>
      obtain ⟨_, e1⟩ := ra.ref
      obtain ⟨_, e2⟩ := rb.ref
      subst e1
      subst e2
      have h' : PostV (rc T X) w Q (match lstOf w.M i, lstOf w.M j with
        | some l, some m => if l.length + m.length ≤ sizeLine then some (.ref w.M.length, w.M ++ [.lst (l ++ m)]) else none
        | _, _ => none) := h
      split at h'
      · rename_i l m c1 c2
        split at h'
        · rename_i hz
          obtain ⟨_, _, xs, s1, r1⟩ := o.lst c1
          obtain ⟨_, _, ys, s2, r2⟩ := o.lst c2
          exact .inr (.inr (.inr (.inr ⟨_, _, xs, ys, rfl, rfl, s1, s2, by rw [r1.length, r2.length]; exact hz, PostV.lst h' o (r1.app r2)⟩)))
        · exact h'.elim
      · exact h'.elim
    | _ => exact h.elim
  | _ => exact h.elim
def mulOk (i j : Int) : Bool := decide (-(2 ^ 64) < i ∧ i < 2 ^ 64) || decide (-(2 ^ 64) < j ∧ j < 2 ^ 64) || decide (i.natAbs.log2 + j.natAbs.log2 < 1000000)
def oMul (a b : D) (M : Mem) : OV := match a, b with
  | .int i, .int j => if mulOk i j = true then some (.int (i * j), M) else none
  | .tup l, .int k => if -(2 ^ 63) ≤ k ∧ k < 2 ^ 63 ∧ l.length * k.toNat ≤ 1000000 then some (.tup (List.replicate k.toNat l).flatten, M) else none
  | .ref i, .int k => match lstOf M i with
    | some l => if -(2 ^ 63) ≤ k ∧ k < 2 ^ 63 ∧ l.length * k.toNat ≤ sizeLine then some (.ref M.length, M ++ [.lst (List.replicate k.toNat l).flatten]) else none
    | none => none
  | _, _ => none
def rTimes (K : PySem.W.Frag) : R2 := fun x y H Q => rI CMul (fun i j => .int (i * j)) x y H Q ∨ rI CMulW (fun i j => .int (i * j)) x y H Q ∨ rRepF K x y H Q ∨ rRep x y H Q
theorem op_times : OpR X (binaryOp .Mult) (rTimes X.K) := op_mul.or (op_mulW.or (op_repF.or op_rep))
theorem RelL.repl {R : RC} {w : Wd} {l : List D} {xs : List V} (r : RelL R w l xs) : ∀ k : Nat, RelL R w (List.replicate k l).flatten (List.replicate k xs).flatten
  | 0 => .nil
  | k + 1 => by
    rw [List.replicate_succ, List.replicate_succ, List.flatten_cons, List.flatten_cons]
    exact r.app (RelL.repl r k)
theorem ok_mul : OpOk T X oMul (rTimes X.K) := fun w a b x y Q o ra rb h => by
  cases b with
  | int j =>
    unfold RelD at rb
    subst rb
    cases a with
    | int i =>
      unfold RelD at ra
      subst ra
      have h' : PostV (rc T X) w Q (if mulOk i j = true then some (.int (i * j), w.M) else none) := h
      split at h'
      · rename_i hm
        unfold mulOk at hm
        rcases Bool.or_eq_true_iff.mp hm with hm | hm
        · rcases Bool.or_eq_true_iff.mp hm with hm | hm
          · exact .inl ⟨i, j, rfl, rfl, .inl (of_decide_eq_true hm), PostV.val h' o .mkInt⟩
          · exact .inl ⟨i, j, rfl, rfl, .inr (of_decide_eq_true hm), PostV.val h' o .mkInt⟩
        · exact .inr (.inl ⟨i, j, rfl, rfl, (show i.natAbs.log2 + j.natAbs.log2 < 1000000 from of_decide_eq_true hm), PostV.val h' o .mkInt⟩)
      · exact h'.elim
    | tup l =>
      obtain ⟨p, xs, e1, s1, r1⟩ := ra.tupI
      subst e1
      have h' : PostV (rc T X) w Q (if -(2 ^ 63) ≤ j ∧ j < 2 ^ 63 ∧ l.length * j.toNat ≤ 1000000 then some (.tup (List.replicate j.toNat l).flatten, w.M) else none) := h
      split at h'
      · rename_i hz
        refine .inr (.inr (.inl ⟨p, j, xs, rfl, rfl, s1, hz.1, hz.2.1, by rw [r1.length]; exact hz.2.2, fun c => ?_, fun c => PostV.tup h' o (r1.repl _)⟩))
        have el : (List.replicate j.toNat l).flatten = l := by
          rcases c with c | c
          · have hl : l = [] := List.eq_nil_of_length_eq_zero (by rw [← r1.length, c]; rfl)
            subst hl
            induction j.toNat with
            | zero => rfl
            | succ k ih => rw [List.replicate_succ, List.flatten_cons, ih]; rfl
          · subst c
            show (List.replicate 1 l).flatten = l
            simp
        rw [el] at h'
        exact PostV.val h' o ra
      · exact h'.elim
    | ref i =>
      obtain ⟨_, e1⟩ := ra.ref
      subst e1
      have h' : PostV (rc T X) w Q (match lstOf w.M i with
        | some l => if -(2 ^ 63) ≤ j ∧ j < 2 ^ 63 ∧ l.length * j.toNat ≤ sizeLine then some (.ref w.M.length, w.M ++ [.lst (List.replicate j.toNat l).flatten]) else none
        | none => none) := h
      split at h'
      · rename_i l c1
        split at h'
        · rename_i hz
          obtain ⟨_, _, xs, s1, r1⟩ := o.lst c1
          exact .inr (.inr (.inr ⟨_, j, xs, rfl, rfl, s1, hz.1, hz.2.1, by rw [r1.length]; exact hz.2.2, PostV.lst h' o (r1.repl _)⟩))
        · exact h'.elim
      · exact h'.elim
    | _ => exact h.elim
  | _ => cases a <;> exact h.elim
/-! ### is None -/
def oIsN (a b : D) (M : Mem) : OV := match b with
  | .non => match a with
    | .non => some (.bl true, M)
    | .gl _ => none
    | _ => some (.bl false, M)
  | _ => none
def oNotN (a b : D) (M : Mem) : OV := match b with
  | .non => match a with
    | .non => some (.bl false, M)
    | .gl _ => none
    | _ => some (.bl true, M)
  | _ => none
theorem non_iff {R : RC} {w : Wd} {a : D} {v : V} (r : RelD R w a v) (hg : ∀ x, a ≠ .gl x) : decide (v = .non) = (match a with
    | .non => true
    | _ => false) := by
  cases a with
  | non => unfold RelD at r; subst r; rfl
  | bl b => unfold RelD at r; subst r; rfl
  | int b => unfold RelD at r; subst r; rfl
  | str b => unfold RelD at r; subst r; rfl
  | ty b => unfold RelD at r; subst r; rfl
  | exn b _ => unfold RelD at r; subst r; rfl
  | ref b => obtain ⟨_, e⟩ := r.ref; subst e; rfl
  | tup b => obtain ⟨_, _, e, _⟩ := r.tupI; subst e; rfl
  | gl b => exact absurd rfl (hg b)
theorem ok_isN : OpOk T X oIsN (fun x y H Q => y = .non ∧ Q (.bl (decide (x = .non))) H) := fun w a b x y Q o ra rb h => by
  cases b with
  | non =>
    unfold RelD at rb
    subst rb
    refine ⟨rfl, ?_⟩
    cases a with
    | gl z => exact h.elim
    | _ => rw [non_iff ra fun _ e => by cases e]; exact PostV.val h o .mkBl
  | _ => exact h.elim
theorem ok_notN : OpOk T X oNotN (fun x y H Q => y = .non ∧ Q (.bl (!decide (x = .non))) H) := fun w a b x y Q o ra rb h => by
  cases b with
  | non =>
    unfold RelD at rb
    subst rb
    refine ⟨rfl, ?_⟩
    cases a with
    | gl z => exact h.elim
    | _ => rw [non_iff ra fun _ e => by cases e]; exact PostV.val h o .mkBl
  | _ => exact h.elim
end
end Pd
namespace Pd
open PySem PySem.Spec PyProof.Rows L2
/-! ### min of a tuple of ints, max of three ints -/
section
variable {prog : Program} {w : World} {A : Around} {E : Value → Shared → Prop} {s : Shared} {l : Addr} {its : List Value} {ns : List Int} {Q : Value → Shared → Prop}
theorem iterT {items : Array Value} {Q : Value → Shared → Prop} (hl : s.heap.IsTuple l items)
    (h : ∀ s2 : Shared, s2 = { s with heap := s.heap.push { cls := .type "tuple_iterator", data := .fields #[.ref l, .int 0 0] } } → (s2.heap.IsTupleIter s.heap.objs.size l 0 ∧ s2.heap.IsTuple l items) → (∀ b ∈ [s.heap.objs.size, l], b < s2.heap.objs.size) → l ≠ s.heap.objs.size → Q (.ref s.heap.objs.size) s2) :
    wpAny (model prog w) A (pyIter (.ref l)) Q E s := by
  have hlt : l < s.heap.objs.size := by obtain ⟨_, e, _⟩ := hl; exact Heap.lt_size e
  refine wpAny_pyIter_tuple hl (h _ rfl ⟨⟨_, Heap.get?_push_size _ rfl, rfl, rfl⟩, hl.at fun o e => Heap.get?_push_of_some _ e⟩ (fun b hb => ?_) (Nat.ne_of_lt hlt))
  show b < (s.heap.push _).objs.size
  rw [Heap.size_push]
  have e' : b = s.heap.objs.size ∨ b = l := by simpa using hb
  rcases e' with z | z <;> rw [z]
  · exact Nat.lt_succ_self _
  · exact Nat.lt_succ_of_lt hlt
theorem minT (hh : A.handled = none) (hl : s.heap.IsTuple l its.toArray) (hi : IntsAre its ns) (hne : 0 < ns.length)
    (h : ∀ h' tk M t', (∀ b o, s.heap.get? b = some o → h'.get? b = some o) → M ∈ ns → (∀ a, a ∈ ns → M ≤ a) → Q (.int M t') { s with heap := h', toks := tk }) : wpAny (model prog w) A (call (.builtin "min") [.ref l]) Q E s := by
  obtain ⟨xs, e⟩ := hi.allInts.items
  have hn : numsOf (intItems xs).toList = ns := by rw [← e]; exact hi.numsOf
  rw [nums_intItems] at hn
  subst hn
  rw [e] at hl
  have hsz : 0 < xs.size := by simpa using hne
  refine call_min_walk (iterT hl fun s2 e st hfp hlI => ?_)
  subst e
  refine ⟨_, _, _, _, _, _, _, rfl, Walks.tuple (A := A.in1) hh _ l hlI (intItems xs), st, hfp, by simpa [intItems] using hsz, CmpOf.ints_lt (numAt xs) (fun _ _ => intItems_at), fun v h' tk hP hk => ?_⟩
  have hv : (intItems xs)[argBest (fun i j => decide (numAt xs i < numAt xs j)) (xs.size - 1)]? = some v := by simpa [intItems] using hP
  obtain ⟨t, rfl⟩ := intItems_at hv
  obtain ⟨h1, h2⟩ := argBest_lt (numAt xs) (xs.size - 1)
  refine h h' tk _ t (fun b o e' => hk b o (fun hm => Nat.ne_of_lt (Heap.lt_size e') (List.mem_singleton.mp hm)) (Heap.get?_push_of_some _ e')) ?_ fun a ha => ?_
  · rw [numAt_eq]
    exact PySem.getD_mem (by rw [List.length_map, Array.length_toList]; omega)
  · obtain ⟨j, hj, rfl⟩ := mem_getD ha
    rw [List.length_map, Array.length_toList] at hj
    rw [← numAt_eq]
    exact h2 j (by omega)
end
def rMinT (K : PySem.W.Frag) : List V → Hp → VK → Prop := fun vs H Q => ∃ (a : Addr) (ns : List Int), vs = [V.ref a] ∧ SqT K H a (ns.map V.int) ∧ 0 < ns.length ∧ ∀ m, m ∈ ns → (∀ y, y ∈ ns → m ≤ y) → Q (.int m) H
theorem cr_minT {X : Cx} (hc : X.calm = true) : CallR X (.builtin "min") (rMinT X.K) := by
  intro pins s σ H vs us Q I r h
  obtain ⟨a, ns, rfl, hs, hne, q⟩ := h
  obtain ⟨its, rv, hl, _⟩ := I.tuple hs
  rw [Vals.ref1 r]
  exact minT (I.ok.hd hc) hl rv.ints hne fun h' tk m t' hk h1 h2 => ⟨.int _, H, I.kept hk, ⟨_, rfl⟩, q m h1 h2⟩
def r3Max : List V → Hp → VK → Prop := fun vs H Q => ∃ i j k : Int, vs = [.int i, .int j, .int k] ∧ Q (.int (if k > (if j > i then j else i) then k else (if j > i then j else i))) H
theorem cr_max3 {X : Cx} (hc : X.calm = true) : CallR X (.builtin "max") r3Max := by
  intro pins s σ H vs us Q I r h
  obtain ⟨i, j, k, rfl, q⟩ := h
  cases r with
  | cons r1 r =>
    cases r with
    | cons r2 r =>
      cases r with
      | cons r3 r =>
        cases r
        obtain ⟨t1, rfl⟩ := r1
        obtain ⟨t2, rfl⟩ := r2
        obtain ⟨t3, rfl⟩ := r3
        refine max_three_ints (I.ok.hd hc) fun h' tk hk => ⟨_, H, I.kept hk, ?_, q⟩
        by_cases h1 : j > i
        · rw [if_pos h1, if_pos h1]
          by_cases h2 : k > j
          · rw [if_pos h2, if_pos h2]; exact ⟨_, rfl⟩
          · rw [if_neg h2, if_neg h2]; exact ⟨_, rfl⟩
        · rw [if_neg h1, if_neg h1]
          by_cases h2 : k > i
          · rw [if_pos h2, if_pos h2]; exact ⟨_, rfl⟩
          · rw [if_neg h2, if_neg h2]; exact ⟨_, rfl⟩
end Pd
namespace Pd
open PySem PySem.Spec PyProof.Rows L2
/-! ### in -/
def flatOf : D → Option V
  | .non => some .non
  | .bl b => some (.bl b)
  | .int i => some (.int i)
  | .str s => some (.str s)
  | _ => none
def flatL : List D → Option (List V)
  | [] => some []
  | d :: r => match flatOf d, flatL r with
    | some v, some vs => some (v :: vs)
    | _, _ => none
theorem flatOf_ok {R : RC} {w : Wd} {d : D} {v v' : V} (h : flatOf d = some v') (r : RelD R w d v) : v = v' ∧ flatV v' = true := by
  cases d with
  | non => cases h; unfold RelD at r; exact ⟨r, rfl⟩
  | bl _ => cases h; unfold RelD at r; exact ⟨r, rfl⟩
  | int _ => cases h; unfold RelD at r; exact ⟨r, rfl⟩
  | str _ => cases h; unfold RelD at r; exact ⟨r, rfl⟩
  | _ => cases h
theorem flatL_ok {R : RC} {w : Wd} : ∀ {l : List D} {xs ys : List V}, flatL l = some ys → RelL R w l xs → xs = ys ∧ ys.all flatV = true
  | [], xs, ys, h, r => by cases h; unfold RelL at r; exact ⟨r, rfl⟩
  | d :: l, xs, ys, h, r => by
    unfold RelL at r
    obtain ⟨x, q, e, a, b⟩ := r
    subst e
    unfold flatL at h
    split at h
    · rename_i v vs e1 e2
      cases h
      obtain ⟨h1, h2⟩ := flatOf_ok e1 a
      obtain ⟨h3, h4⟩ := flatL_ok e2 b
      exact ⟨by rw [h1, h3], by rw [List.all_cons, h2, h4]; rfl⟩
    · cases h
def itemsOf (M : Mem) : D → Option (List D)
  | .tup l => some l
  | .ref n => seqOf M n
  | _ => none
def inFlat (a b : D) (M : Mem) : Option Bool := match flatOf a, (itemsOf M b).bind flatL with
  | some x, some xs => some (inV x xs)
  | _, _ => none
def inDeep (a b : D) (M : Mem) : Option Bool := match b with
  | .ref n => match pyD M FU a, pyD M FU (.ref n) with
    | some d, some (.list ds) => if SeqAt.shaped d && SeqAt.shaped (.list ds) then some (ds.any fun z => PyData.eqv z d) else none
    | _, _ => none
  | _ => none
def inStr (a b : D) : Option Bool := match a, b with
  | .str x, .str y => some (!(Builtin.Str.occurrences y x 0 y.length 1).isEmpty)
  | _, _ => none
def dInB (a b : D) (M : Mem) : Option Bool := match inStr a b with
  | some k => some k
  | none => match inFlat a b M with
    | some k => some k
    | none => inDeep a b M
def oIn (a b : D) (M : Mem) : OV := (dInB a b M).map fun k => (.bl k, M)
def oNin (a b : D) (M : Mem) : OV := (dInB a b M).map fun k => (.bl (!k), M)
def rInA (K : PySem.W.Frag) : R2 := fun x y H Q => (∃ i j, x = .str i ∧ y = .str j ∧ Q (.bl (!(Builtin.Str.occurrences j i 0 j.length 1).isEmpty)) H) ∨ rIn K false x y H Q ∨ rInD K x y H Q
def rNinA (K : PySem.W.Frag) : R2 := fun x y H Q => (∃ i j, x = .str i ∧ y = .str j ∧ Q (.bl (!(!(Builtin.Str.occurrences j i 0 j.length 1).isEmpty))) H) ∨ rIn K true x y H Q ∨ rNotInD K x y H Q
section
variable {T : TB} {X : Cx}
theorem op_inA (hu : X.A.units + 65 < cLine) : OpR X (compareOp .In) (rInA X.K) := op_in_str.or (op_in_seq.or (op_inD hu))
theorem op_ninA (hu : X.A.units + 65 < cLine) : OpR X (compareOp .NotIn) (rNinA X.K) := op_notIn_str.or (op_notIn_seq.or (op_notInD hu))
theorem inFlat_ok {R : RC} {w : Wd} (o : w.Ok R) {a b : D} {x y : V} {k : Bool} (h : inFlat a b w.M = some k) (ra : RelD R w a x) (rb : RelD R w b y) :
    ∃ p xs, y = .ref p ∧ (SqL R.K w.H p xs ∨ SqT R.K w.H p xs) ∧ flatV x = true ∧ xs.all flatV = true ∧ inV x xs = k := by
  unfold inFlat at h
  split at h
  · rename_i v vs e1 e2
    cases h
    obtain ⟨h1, h2⟩ := flatOf_ok e1 ra
    subst h1
    cases b with
    | tup l =>
      obtain ⟨p, xs, e, s, r⟩ := rb.tupI
      obtain ⟨h3, h4⟩ := flatL_ok (show flatL l = some vs from e2) r
      subst h3
      exact ⟨p, xs, e, .inr s, h2, h4, rfl⟩
    | ref n =>
      obtain ⟨_, e⟩ := rb.ref
      have e2' : (seqOf w.M n).bind flatL = some vs := e2
      cases c : seqOf w.M n with
      | none => rw [c] at e2'; cases e2'
      | some l =>
        rw [c] at e2'
        obtain ⟨_, xs, s, r, _⟩ := o.seq c
        obtain ⟨h3, h4⟩ := flatL_ok (show flatL l = some vs from e2') r
        subst h3
        exact ⟨_, xs, e, .inl s, h2, h4, rfl⟩
    | _ => cases e2
  · cases h
theorem inDeep_ok {R : RC} {w : Wd} (o : w.Ok R) {a b : D} {x y : V} {k : Bool} (h : inDeep a b w.M = some k) (ra : RelD R w a x) (rb : RelD R w b y) :
    ∃ d ds, Dp R.K w.H x d ∧ Dp R.K w.H y (.list ds) ∧ SeqAt.shaped d = true ∧ SeqAt.shaped (.list ds) = true ∧ (ds.any fun z => PyData.eqv z d) = k := by
  cases b with
  | ref n =>
    unfold inDeep at h
    simp only at h
    split at h
    · rename_i d ds e1 e2
      split at h
      · rename_i hs
        cases h
        have hs' := Bool.and_eq_true_iff.mp hs
        exact ⟨d, ds, pyD_ok o _ a d x e1 ra, pyD_ok o _ _ _ y e2 rb, hs'.1, hs'.2, rfl⟩
      · cases h
    · cases h
  | _ => cases h
theorem inStr_ok {R : RC} {w : Wd} {a b : D} {x y : V} {k : Bool} (h : inStr a b = some k) (ra : RelD R w a x) (rb : RelD R w b y) : ∃ i j, x = .str i ∧ y = .str j ∧ (!(Builtin.Str.occurrences j i 0 j.length 1).isEmpty) = k := by
  cases a with
  | str i =>
    cases b with
    | str j => cases h; unfold RelD at ra rb; exact ⟨i, j, ra, rb, rfl⟩
    | _ => cases h
  | _ => cases b <;> cases h
theorem ok_in : OpOk T X oIn (rInA X.K) := fun w a b x y Q o ra rb h => by
  unfold oIn at h
  cases e : dInB a b w.M with
  | none => rw [e] at h; exact h.elim
  | some k =>
    rw [e] at h
    have q := PostV.val h o .mkBl
    unfold dInB at e
    split at e
    · rename_i k' e1
      cases e
      obtain ⟨i, j, h1, h2, h3⟩ := inStr_ok e1 ra rb
      exact .inl ⟨i, j, h1, h2, by rw [h3]; exact q⟩
    · split at e
      · rename_i k' e1
        cases e
        obtain ⟨p, xs, h1, h2, h3, h4, h5⟩ := inFlat_ok o e1 ra rb
        exact .inr (.inl ⟨p, xs, h1, h2, h3, h4, by rw [if_neg Bool.false_ne_true, h5]; exact q⟩)
      · obtain ⟨d, ds, h1, h2, h3, h4, h5⟩ := inDeep_ok o e ra rb
        exact .inr (.inr ⟨d, ds, h1, h2, h3, h4, by rw [h5]; exact q⟩)
theorem ok_nin : OpOk T X oNin (rNinA X.K) := fun w a b x y Q o ra rb h => by
  unfold oNin at h
  cases e : dInB a b w.M with
  | none => rw [e] at h; exact h.elim
  | some k =>
    rw [e] at h
    have q := PostV.val h o .mkBl
    unfold dInB at e
    split at e
    · rename_i k' e1
      cases e
      obtain ⟨i, j, h1, h2, h3⟩ := inStr_ok e1 ra rb
      exact .inl ⟨i, j, h1, h2, by rw [h3]; exact q⟩
    · split at e
      · rename_i k' e1
        cases e
        obtain ⟨p, xs, h1, h2, h3, h4, h5⟩ := inFlat_ok o e1 ra rb
        exact .inr (.inl ⟨p, xs, h1, h2, h3, h4, by rw [if_pos rfl, h5]; exact q⟩)
      · obtain ⟨d, ds, h1, h2, h3, h4, h5⟩ := inDeep_ok o e ra rb
        exact .inr (.inr ⟨d, ds, h1, h2, h3, h4, by rw [h5]; exact q⟩)
/-! ### places -/
def oIx (a b : D) (M : Mem) : OV := match b with
  | .int i => match a with
    | .tup l => (atI l i).map fun d => (d, M)
    | .ref n => (seqOf M n).bind fun l => (atI l i).map fun d => (d, M)
    | .str z => if z.length ≤ sizeLine then (atI z.cps.toList i).map fun c => (.str ⟨#[c]⟩, M) else none
    | _ => none
  | _ => none
theorem atI_rel {R : RC} {w : Wd} {l : List D} {xs : List V} {i : Int} {d : D} (r : RelL R w l xs) (h : atI l i = some d) : ∃ v, atI xs i = some v ∧ RelD R w d v := by
  unfold atI at h ⊢
  rw [r.length]
  cases e : ixN l.length i with
  | none => rw [e] at h; cases h
  | some j =>
    rw [e] at h
    obtain ⟨v, h1, h2⟩ := r.get (show l[j]? = some d from h)
    exact ⟨v, h1, h2⟩
theorem ok_ix : OpOk T X oIx (rIx X.K) := fun w a b x y Q o ra rb h => by
  cases b with
  | int i =>
    unfold RelD at rb
    subst rb
    cases a with
    | tup l =>
      obtain ⟨p, xs, e, s, r⟩ := ra.tupI
      have h' : PostV (rc T X) w Q ((atI l i).map fun d => (d, w.M)) := h
      cases c : atI l i with
      | none => rw [c] at h'; exact h'.elim
      | some d =>
        rw [c] at h'
        obtain ⟨v, h1, h2⟩ := atI_rel r c
        exact .inr (.inl ⟨p, xs, i, v, e, rfl, s, h1, PostV.val h' o h2⟩)
    | ref n =>
      obtain ⟨_, e⟩ := ra.ref
      have h' : PostV (rc T X) w Q ((seqOf w.M n).bind fun l => (atI l i).map fun d => (d, w.M)) := h
      cases c0 : seqOf w.M n with
      | none => rw [c0] at h'; exact h'.elim
      | some l =>
        rw [c0] at h'
        obtain ⟨_, xs, s, r, _⟩ := o.seq c0
        have h'' : PostV (rc T X) w Q ((atI l i).map fun d => (d, w.M)) := h'
        cases c : atI l i with
        | none => rw [c] at h''; exact h''.elim
        | some d =>
          rw [c] at h''
          obtain ⟨v, h1, h2⟩ := atI_rel r c
          exact .inl ⟨_, xs, i, v, e, rfl, s, h1, PostV.val h'' o h2⟩
    | str z =>
      unfold RelD at ra
      have h' : PostV (rc T X) w Q (if z.length ≤ sizeLine then (atI z.cps.toList i).map fun c => (.str ⟨#[c]⟩, w.M) else none) := h
      split at h'
      · rename_i hz
        cases c : atI z.cps.toList i with
        | none => rw [c] at h'; exact h'.elim
        | some d =>
          rw [c] at h'
          exact .inr (.inr ⟨z, i, d, ra, rfl, hz, c, PostV.val h' o .mkStr⟩)
      · exact h'.elim
    | _ => exact h.elim
  | _ => cases a <;> exact h.elim
theorem EV.ix {W : WX} {a b : Expr} {f g : EF D} {pos : Pos} (ha : EV T W X a f) (hb : EV T W X b g) (hs : PlainIx b) : EV T W X (.Subscript a b pos) (dBin oIx f g) := by
  obtain ⟨ta, pa, qa⟩ := ha
  obtain ⟨tb, pb, qb⟩ := hb
  refine ⟨_, pe_ix ix_seq pa pb hs, fun w δ σ Q o s h => ?_⟩
  refine qa w δ σ _ o s (h.bind fun d1 w1 v1 l1 o1 r1 h1 => ?_)
  refine qb w1 δ σ _ o1 (s.mono l1) (h1.bind fun d2 w2 v2 l2 o2 r2 h2 => ?_)
  exact ok_ix w2 d1 d2 v1 v2 Q o2 (RelD.mono l2 _ _ r1) r2 (post_ofV h2)
/-! ### slices -/
def EP (T : TB) (W : WX) (X : Cx) (e : Option Expr) (f : EF (Option Int)) : Prop :=
  ∃ t, PO X e t ∧ ∀ w δ σ Q, w.Ok (rc T X) → SRel (rc T X) w δ σ → Post (rc T X) W w σ (fun _ a b => a = b) Q (f δ w.M) → t σ w.H Q
def dNoP : EF (Option Int) := fun _ M => .ok none M
def dPart (f : EF D) : EF (Option Int) := fun δ M => (f δ M).bind fun a M1 => match a with
  | .int i => .ok (some i) M1
  | _ => .bad
theorem EP.none {W : WX} : EP T W X none dNoP := ⟨_, po_none, fun w δ σ Q o s h => h w _ rfl (.refl _) o rfl⟩
theorem EP.some {W : WX} {e : Expr} {f : EF D} (h : EV T W X e f) : EP T W X (some e) (dPart f) := by
  obtain ⟨ta, pa, qa⟩ := h
  refine ⟨_, po_some pa, fun w δ σ Q o s h => ?_⟩
  refine qa w δ σ _ o s (h.bind fun d1 w1 v1 l1 o1 r1 h1 => ?_)
  cases d1 with
  | int i => unfold RelD at r1; exact ⟨i, r1, h1 w1 _ rfl (.refl _) o1 rfl⟩
  | _ => exact h1.elim
def cutD (xs : List D) (lo hi : Option Int) : List D := (xs.drop (HT.sIx xs.length 0 lo)).take (HT.sIx xs.length xs.length hi - HT.sIx xs.length 0 lo)
theorem RelL.cut {R : RC} {w : Wd} {l : List D} {xs : List V} (r : RelL R w l xs) (lo hi : Option Int) : RelL R w (cutD l lo hi) (cutV xs lo hi) := by
  unfold cutD cutV
  rw [r.length]
  exact RelL.take _ (RelL.drop _ r)
def oSl (a : D) (lo hi : Option Int) (M : Mem) : OV := match a with
  | .tup l => some (.tup (cutD l lo hi), M)
  | .ref n => (seqOf M n).map fun l => (.ref M.length, M ++ [.lst (cutD l lo hi)])
  | .str z => if z.length ≤ sizeLine then some (.str (cutS z lo hi), M) else none
  | _ => none
def dSl (f : EF D) (g h : EF (Option Int)) : EF D := fun δ M => (f δ M).bind fun a M1 => (g δ M1).bind fun lo M2 => (h δ M2).bind fun hi M3 => ofV (oSl a lo hi M3)
def rSlAll (K : PySem.W.Frag) : V → Option Int → Option Int → Hp → VK → Prop := fun x lo hi H Q => rSlA K x lo hi H Q ∨ rSlL K x lo hi H Q ∨ rSlS x lo hi H Q
theorem sl_all : SlR X (rSlAll X.K) := sl_tupA.or (sl_list.or sl_str)
theorem EV.sl {W : WX} {e : Expr} {a b : Option Expr} {f : EF D} {g h : EF (Option Int)} {pos p2 : Pos} (hf : EV T W X e f) (hg : EP T W X a g) (hh : EP T W X b h) : EV T W X (.Subscript e (.Slice a b none p2) pos) (dSl f g h) := by
  obtain ⟨ta, pa, qa⟩ := hf
  obtain ⟨tb, pb, qb⟩ := hg
  obtain ⟨tc, pc, qc⟩ := hh
  refine ⟨_, pe_slice sl_all pa pb pc, fun w δ σ Q o s h => ?_⟩
  refine qa w δ σ _ o s (h.bind fun d w1 v l1 o1 r1 h1 => ?_)
  refine qb w1 δ σ _ o1 (s.mono l1) (h1.bind fun lo w2 lo' l2 o2 r2 h2 => ?_)
  cases (show lo = lo' from r2)
  refine qc w2 δ σ _ o2 (s.mono (l1.trans l2)) (h2.bind fun hi w3 hi' l3 o3 r3 h3 => ?_)
  cases (show hi = hi' from r3)
  have rd := RelD.mono (l2.trans l3) _ _ r1
  have h4 : PostV (rc T X) w3 Q (oSl d lo hi w3.M) := post_ofV h3
  cases d with
  | tup l =>
    obtain ⟨p, xs, e1, s1, rl⟩ := rd.tupI
    refine .inl ⟨p, xs, e1, s1, fun c => ?_, fun _ => PostV.tup h4 o3 (rl.cut lo hi)⟩
    have hl := rl.length
    have el : cutD l lo hi = l := by
      unfold cutD
      rw [hl] at c
      rw [c.1, c.2, List.drop_zero, Nat.sub_zero, List.take_length]
    have h5 : PostV (rc T X) w3 Q (some (.tup (cutD l lo hi), w3.M)) := h4
    rw [el] at h5
    subst e1
    exact PostV.val h5 o3 rd
  | ref n =>
    obtain ⟨_, e1⟩ := rd.ref
    have h5 : PostV (rc T X) w3 Q ((seqOf w3.M n).map fun l => (.ref w3.M.length, w3.M ++ [.lst (cutD l lo hi)])) := h4
    cases c : seqOf w3.M n with
    | none => rw [c] at h5; exact h5.elim
    | some l =>
      rw [c] at h5
      obtain ⟨_, xs, s1, rl, _⟩ := o3.seq c
      exact .inr (.inl ⟨_, xs, e1, s1, PostV.lst h5 o3 (rl.cut lo hi)⟩)
  | str z =>
    unfold RelD at rd
    have h5 : PostV (rc T X) w3 Q (if z.length ≤ sizeLine then some (.str (cutS z lo hi), w3.M) else none) := h4
    split at h5
    · exact .inr (.inr ⟨z, rd, by assumption, PostV.val h5 o3 .mkStr⟩)
    · exact h5.elim
  | _ => exact h4.elim
/-! ### built-ins -/
theorem EV.bltTy {W : WX} {x : Str} {n : String} {pos : Pos} (hg : Gl X x) (hm : X.mg x = none) (hv : bootBuiltins x = some (.type n)) (hn : x ≠ "__name__") (hd : (x == ("__debug__" : Str)) = false) : EV T W X (.Name x pos) (dC (.ty n)) :=
  EV.const (pe_bltn (v := .ty n) hg hm hv rfl hn hd) (fun _ _ _ h => h) fun _ => by unfold RelD; rfl
theorem RelL.one {R : RC} {w : Wd} {d : D} {xs : List V} (r : RelL R w [d] xs) : ∃ x, xs = [x] ∧ RelD R w d x := by
  unfold RelL at r
  obtain ⟨x, q, e, a, b⟩ := r
  unfold RelL at b
  subst b
  exact ⟨x, e, a⟩
theorem RelL.two {R : RC} {w : Wd} {d d2 : D} {xs : List V} (r : RelL R w [d, d2] xs) : ∃ x y, xs = [x, y] ∧ RelD R w d x ∧ RelD R w d2 y := by
  unfold RelL at r
  obtain ⟨x, q, e, a, b⟩ := r
  obtain ⟨y, e2, b2⟩ := RelL.one b
  subst e2
  exact ⟨x, y, e, a, b2⟩
def oLen (l : List D) (M : Mem) : OV := match l with
  | [.tup l] => some (.int l.length, M)
  | [.ref n] => (seqOf M n).map fun l => (.int l.length, M)
  | [.str z] => if z.length ≤ sizeLine then some (.int z.length, M) else none
  | _ => none
theorem bl_len : BlOk T X oLen (fun xs H Q => ∃ x n, xs = [x] ∧ LenV X.K x H n ∧ Q (.int n) H) := fun w l xs Q o r h => by
  unfold oLen at h
  split at h
  · rename_i l
    obtain ⟨x, e, rd⟩ := r.one
    obtain ⟨p, xs', e1, s1, rl⟩ := rd.tupI
    subst e1
    exact ⟨_, _, e, .inr ⟨xs', s1, rfl⟩, by rw [rl.length]; exact PostV.val h o .mkInt⟩
  · rename_i n
    obtain ⟨x, e, rd⟩ := r.one
    obtain ⟨_, e1⟩ := rd.ref
    subst e1
    cases c : seqOf w.M n with
    | none => rw [c] at h; exact h.elim
    | some l =>
      rw [c] at h
      obtain ⟨_, xs', s1, rl, _⟩ := o.seq c
      exact ⟨_, _, e, .inl ⟨xs', s1, rfl⟩, by rw [rl.length]; exact PostV.val h o .mkInt⟩
  · rename_i z
    obtain ⟨x, e, rd⟩ := r.one
    unfold RelD at rd
    subst rd
    split at h
    · exact ⟨_, _, e, ⟨by assumption, rfl⟩, PostV.val h o .mkInt⟩
    · exact h.elim
  · exact h.elim
def oToInt (l : List D) (M : Mem) : OV := match l with
  | [.int i] => some (.int i, M)
  | [.bl b] => some (.int (if b then 1 else 0), M)
  | _ => none
theorem bl_int : BlOk T X oToInt (fun xs H Q => (∃ i, xs = [.int i] ∧ Q (.int i) H) ∨ ∃ k, xs = [.bl k] ∧ Q (.int (if k then 1 else 0)) H) := fun w l xs Q o r h => by
  unfold oToInt at h
  split at h
  · obtain ⟨x, e, rd⟩ := r.one
    unfold RelD at rd
    subst rd
    exact .inl ⟨_, e, PostV.val h o .mkInt⟩
  · obtain ⟨x, e, rd⟩ := r.one
    unfold RelD at rd
    subst rd
    exact .inr ⟨_, e, PostV.val h o .mkInt⟩
  · exact h.elim
def oToBool (l : List D) (M : Mem) : OV := match l with
  | [.int i] => some (.bl (i != 0), M)
  | [.bl b] => some (.bl b, M)
  | _ => none
theorem bl_bool : BlOk T X oToBool (fun xs H Q => (∃ i, xs = [.int i] ∧ Q (.bl (i != 0)) H) ∨ ∃ k, xs = [.bl k] ∧ Q (.bl k) H) := fun w l xs Q o r h => by
  unfold oToBool at h
  split at h
  · obtain ⟨x, e, rd⟩ := r.one
    unfold RelD at rd
    subst rd
    exact .inl ⟨_, e, PostV.val h o .mkBl⟩
  · obtain ⟨x, e, rd⟩ := r.one
    unfold RelD at rd
    subst rd
    exact .inr ⟨_, e, PostV.val h o .mkBl⟩
  · exact h.elim
def oAbs (l : List D) (M : Mem) : OV := match l with
  | [.int i] => some (.int (if i < 0 then -i else i), M)
  | _ => none
theorem bl_abs : BlOk T X oAbs (fun xs H Q => ∃ i, xs = [.int i] ∧ Q (.int (if i < 0 then -i else i)) H) := fun w l xs Q o r h => by
  unfold oAbs at h
  split at h
  · obtain ⟨x, e, rd⟩ := r.one
    unfold RelD at rd
    subst rd
    exact ⟨_, e, PostV.val h o .mkInt⟩
  · exact h.elim
def oToStr (l : List D) (M : Mem) : OV := match l with
  | [.int i] => if i.natAbs.log2 < 1920 then some (.str (toString i), M) else none
  | _ => none
theorem bl_str : BlOk T X oToStr (fun xs H Q => ∃ i, xs = [.int i] ∧ i.natAbs.log2 < 1920 ∧ Q (.str (toString i)) H) := fun w l xs Q o r h => by
  unfold oToStr at h
  split at h
  · obtain ⟨x, e, rd⟩ := r.one
    unfold RelD at rd
    subst rd
    split at h
    · exact ⟨_, e, by assumption, PostV.val h o .mkStr⟩
    · exact h.elim
  · exact h.elim
def maxL : List Int → Int → Int
  | [], m => m
  | x :: r, m => maxL r (if m < x then x else m)
def minL : List Int → Int → Int
  | [], m => m
  | x :: r, m => minL r (if x < m then x else m)
theorem maxL_spec : ∀ (l : List Int) (m : Int), (maxL l m = m ∨ maxL l m ∈ l) ∧ m ≤ maxL l m ∧ ∀ x ∈ l, x ≤ maxL l m
  | [], m => ⟨.inl rfl, Int.le_refl _, fun x h => by cases h⟩
  | y :: r, m => by
    have ih := maxL_spec r (if m < y then y else m)
    have e : maxL (y :: r) m = maxL r (if m < y then y else m) := rfl
    rw [e]
    refine ⟨?_, ?_, fun x hx => ?_⟩
    · rcases ih.1 with h | h
      · rw [h]
        split
        · exact .inr List.mem_cons_self
        · exact .inl rfl
      · exact .inr (List.mem_cons_of_mem _ h)
    · refine Int.le_trans ?_ ih.2.1
      split <;> omega
    · rcases List.mem_cons.mp hx with h | h
      · subst h
        refine Int.le_trans ?_ ih.2.1
        split <;> omega
      · exact ih.2.2 x h
theorem minL_spec : ∀ (l : List Int) (m : Int), (minL l m = m ∨ minL l m ∈ l) ∧ minL l m ≤ m ∧ ∀ x ∈ l, minL l m ≤ x
  | [], m => ⟨.inl rfl, Int.le_refl _, fun x h => by cases h⟩
  | y :: r, m => by
    have ih := minL_spec r (if y < m then y else m)
    have e : minL (y :: r) m = minL r (if y < m then y else m) := rfl
    rw [e]
    refine ⟨?_, ?_, fun x hx => ?_⟩
    · rcases ih.1 with h | h
      · rw [h]
        split
        · exact .inr List.mem_cons_self
        · exact .inl rfl
      · exact .inr (List.mem_cons_of_mem _ h)
    · refine Int.le_trans ih.2.1 ?_
      split <;> omega
    · rcases List.mem_cons.mp hx with h | h
      · subst h
        refine Int.le_trans ih.2.1 ?_
        split <;> omega
      · exact ih.2.2 x h
def oMax (l : List D) (M : Mem) : OV := match l with
  | [.int i, .int j] => some (.int (if j > i then j else i), M)
  | [.int i, .int j, .int k] => some (.int (if k > (if j > i then j else i) then k else (if j > i then j else i)), M)
  | [.ref n] => match (seqOf M n).bind intsD with
    | some (x :: r) => some (.int (maxL r x), M)
    | _ => none
  | _ => none
def oMin (l : List D) (M : Mem) : OV := match l with
  | [.int i, .int j] => some (.int (if j < i then j else i), M)
  | [.ref n] => match (seqOf M n).bind intsD with
    | some (x :: r) => some (.int (minL r x), M)
    | _ => none
  | [.tup l] => match intsD l with
    | some (x :: r) => some (.int (minL r x), M)
    | _ => none
  | _ => none
theorem Wd.Ok.intsAt {R : RC} {w : Wd} (o : w.Ok R) {n : Nat} {ns : List Int} (h : (seqOf w.M n).bind intsD = some ns) : SqL R.K w.H (w.ρ n) (ns.map V.int) ∧ seqOf w.M n = some (ns.map D.int) := by
  cases c : seqOf w.M n with
  | none => rw [c] at h; cases h
  | some l =>
    rw [c] at h
    have e := intsD_map (show intsD l = some ns from h)
    subst e
    obtain ⟨_, xs, s1, rl, _⟩ := o.seq c
    rw [rl.ints] at s1
    exact ⟨s1, rfl⟩
theorem bl_max : BlOk T X oMax (fun xs H Q => (∃ i j, xs = [.int i, .int j] ∧ Q (.int (if j > i then j else i)) H) ∨ (rMax X.K xs H Q ∨ r3Max xs H Q)) := fun w l xs Q o r h => by
  unfold oMax at h
  split at h
  · obtain ⟨x, y, e, rd, rd2⟩ := r.two
    unfold RelD at rd rd2
    subst rd rd2
    exact .inl ⟨_, _, e, PostV.val h o .mkInt⟩
  · unfold RelL at r
    obtain ⟨x, q, e, rd, r⟩ := r
    obtain ⟨y, z, e2, rd2, rd3⟩ := r.two
    unfold RelD at rd rd2 rd3
    subst e e2 rd rd2 rd3
    exact .inr (.inr ⟨_, _, _, rfl, PostV.val h o .mkInt⟩)
  · rename_i n
    obtain ⟨x, e, rd⟩ := r.one
    obtain ⟨_, e1⟩ := rd.ref
    subst e1
    split at h
    · rename_i y q c
      obtain ⟨s, _⟩ := o.intsAt c
      refine .inr (.inl ⟨_, y :: q, e, s, by simp, fun m hm hle => ?_⟩)
      have sp := maxL_spec q y
      have : m = maxL q y := by
        have h1 : maxL q y ≤ m := by
          rcases sp.1 with h1 | h1
          · rw [h1]; exact hle y List.mem_cons_self
          · exact hle _ (List.mem_cons_of_mem _ h1)
        have h2 : m ≤ maxL q y := by
          rcases List.mem_cons.mp hm with h2 | h2
          · rw [h2]; exact sp.2.1
          · exact sp.2.2 m h2
        omega
      rw [this]
      exact PostV.val h o .mkInt
    · exact h.elim
  · exact h.elim
theorem bl_min : BlOk T X oMin (fun xs H Q => (∃ i j, xs = [.int i, .int j] ∧ Q (.int (if j < i then j else i)) H) ∨ (rMin X.K xs H Q ∨ rMinT X.K xs H Q)) := fun w l xs Q o r h => by
  unfold oMin at h
  split at h
  · obtain ⟨x, y, e, rd, rd2⟩ := r.two
    unfold RelD at rd rd2
    subst rd rd2
    exact .inl ⟨_, _, e, PostV.val h o .mkInt⟩
  · rename_i n
    obtain ⟨x, e, rd⟩ := r.one
    obtain ⟨_, e1⟩ := rd.ref
    subst e1
    split at h
    · rename_i y q c
      obtain ⟨s, _⟩ := o.intsAt c
      refine .inr (.inl ⟨_, y :: q, e, s, by simp, fun m hm hle => ?_⟩)
      have sp := minL_spec q y
      have : m = minL q y := by
        have h1 : m ≤ minL q y := by
          rcases sp.1 with h1 | h1
          · rw [h1]; exact hle y List.mem_cons_self
          · exact hle _ (List.mem_cons_of_mem _ h1)
        have h2 : minL q y ≤ m := by
          rcases List.mem_cons.mp hm with h2 | h2
          · rw [h2]; exact sp.2.1
          · exact sp.2.2 m h2
        omega
      rw [this]
      exact PostV.val h o .mkInt
    · exact h.elim
  · rename_i l
    obtain ⟨x, e, rd⟩ := r.one
    obtain ⟨a, xs', ea, sa, ra⟩ := rd.tupI
    subst ea
    split at h
    · rename_i y q c
      have c2 := intsD_map c
      subst c2
      rw [ra.ints] at sa
      refine .inr (.inr ⟨_, y :: q, e, sa, by simp, fun m hm hle => ?_⟩)
      have sp := minL_spec q y
      have : m = minL q y := by
        have h1 : m ≤ minL q y := by
          rcases sp.1 with h1 | h1
          · rw [h1]; exact hle y List.mem_cons_self
          · exact hle _ (List.mem_cons_of_mem _ h1)
        have h2 : minL q y ≤ m := by
          rcases List.mem_cons.mp hm with h2 | h2
          · rw [h2]; exact sp.2.1
          · exact sp.2.2 m h2
        omega
      rw [this]
      exact PostV.val h o .mkInt
    · exact h.elim
  · exact h.elim
def oSum (l : List D) (M : Mem) : OV := match l with
  | [.ref n] => match (seqOf M n).bind intsD with
    | some ns => some (.int ns.sum, M)
    | none => none
  | _ => none
theorem bl_sum : BlOk T X oSum (rSum X.K) := fun w l xs Q o r h => by
  unfold oSum at h
  split at h
  · rename_i n
    obtain ⟨x, e, rd⟩ := r.one
    obtain ⟨_, e1⟩ := rd.ref
    subst e1
    split at h
    · rename_i ns c
      obtain ⟨s, _⟩ := o.intsAt c
      exact ⟨_, ns, e, s, PostV.val h o .mkInt⟩
    · exact h.elim
  · exact h.elim
def oAll (l : List D) (M : Mem) : OV := match l with
  | [.ref n] => match (seqOf M n).bind blsD with
    | some ns => some (.bl (ns.all id), M)
    | none => none
  | _ => none
theorem bl_all : BlOk T X oAll (rAll X.K) := fun w l xs Q o r h => by
  unfold oAll at h
  split at h
  · rename_i n
    obtain ⟨x, e, rd⟩ := r.one
    obtain ⟨_, e1⟩ := rd.ref
    subst e1
    cases c : seqOf w.M n with
    | none => rw [c] at h; exact h.elim
    | some l =>
      rw [c] at h
      split at h
      · rename_i ns c2
        have e2 := blsD_map (show blsD l = some ns from c2)
        subst e2
        obtain ⟨_, xs', s1, rl, _⟩ := o.seq c
        rw [rl.bls] at s1
        exact ⟨_, ns, e, s1, PostV.val h o .mkBl⟩
      · exact h.elim
  · exact h.elim
def oToTup (l : List D) (M : Mem) : OV := match l with
  | [.tup l] => some (.tup l, M)
  | [.ref n] => (seqOf M n).map fun l => (.tup l, M)
  | _ => none
theorem bl_tup : BlOk T X oToTup (fun xs H Q => ∃ p ys, xs = [.ref p] ∧ ((SqL X.K H p ys ∧ ∀ l, H l = none → Q (.ref l) (upd H l (.tup ys))) ∨ (SqT X.K H p ys ∧ Q (.ref p) H))) := fun w l xs Q o r h => by
  unfold oToTup at h
  split at h
  · obtain ⟨x, e, rd⟩ := r.one
    obtain ⟨p, ys, e1, s1, rl⟩ := id rd.tupI
    subst e1
    exact ⟨p, ys, e, .inr ⟨s1, PostV.val h o rd⟩⟩
  · rename_i n
    obtain ⟨x, e, rd⟩ := r.one
    obtain ⟨_, e1⟩ := rd.ref
    subst e1
    cases c : seqOf w.M n with
    | none => rw [c] at h; exact h.elim
    | some l =>
      rw [c] at h
      obtain ⟨_, xs', s1, rl, _⟩ := o.seq c
      exact ⟨_, xs', e, .inl ⟨s1, PostV.tup h o rl⟩⟩
  · exact h.elim
def oToLst (l : List D) (M : Mem) : OV := match l with
  | [.tup l] => some (.ref M.length, M ++ [.lst l])
  | [.ref n] => (seqOf M n).map fun l => (.ref M.length, M ++ [.lst l])
  | _ => none
theorem bl_lst : BlOk T X oToLst (fun xs H Q => ∃ p ys, xs = [.ref p] ∧ (SqL X.K H p ys ∨ SqT X.K H p ys) ∧ ∀ l, H l = none → Q (.ref l) (upd H l (.lst ys))) := fun w l xs Q o r h => by
  unfold oToLst at h
  split at h
  · obtain ⟨x, e, rd⟩ := r.one
    obtain ⟨p, ys, e1, s1, rl⟩ := id rd.tupI
    subst e1
    exact ⟨p, ys, e, .inr s1, PostV.lst h o rl⟩
  · rename_i n
    obtain ⟨x, e, rd⟩ := r.one
    obtain ⟨_, e1⟩ := rd.ref
    subst e1
    cases c : seqOf w.M n with
    | none => rw [c] at h; exact h.elim
    | some l =>
      rw [c] at h
      obtain ⟨_, xs', s1, rl, _⟩ := o.seq c
      exact ⟨_, xs', e, .inl s1, PostV.lst h o rl⟩
  · exact h.elim
/-- ints in order -/
def insI (x : Int) : List Int → List Int
  | [] => [x]
  | y :: r => if x ≤ y then x :: y :: r else y :: insI x r
def sortI : List Int → List Int
  | [] => []
  | x :: r => insI x (sortI r)
theorem insI_perm (x : Int) : ∀ l, (insI x l).Perm (x :: l)
  | [] => .refl _
  | y :: r => by
    unfold insI
    split
    · exact .refl _
    · exact ((insI_perm x r).cons y).trans (.swap x y r)
theorem sortI_perm : ∀ l, (sortI l).Perm l
  | [] => .refl _
  | x :: r => (insI_perm x _).trans ((sortI_perm r).cons x)
theorem insI_sorted (x : Int) : ∀ l : List Int, l.Pairwise (· ≤ ·) → (insI x l).Pairwise (· ≤ ·)
  | [], _ => by simp [insI]
  | y :: r, h => by
    have h' := List.pairwise_cons.mp h
    unfold insI
    split
    · rename_i hxy
      refine List.pairwise_cons.mpr ⟨fun z hz => ?_, h⟩
      rcases List.mem_cons.mp hz with e | hz
      · subst e; exact hxy
      · exact Int.le_trans hxy (h'.1 z hz)
    · rename_i hxy
      refine List.pairwise_cons.mpr ⟨fun z hz => ?_, insI_sorted x r h'.2⟩
      rcases List.mem_cons.mp ((insI_perm x r).mem_iff.mp hz) with e | hz
      · subst e; omega
      · exact h'.1 z hz
theorem sortI_sorted : ∀ l, (sortI l).Pairwise (· ≤ ·)
  | [] => by simp [sortI]
  | x :: r => insI_sorted x _ (sortI_sorted r)
theorem sorted_one : ∀ {l m : List Int}, l.Pairwise (· ≤ ·) → m.Pairwise (· ≤ ·) → l.Perm m → l = m
  | [], m, _, _, p => (List.nil_perm.mp p).symm
  | x :: r, [], _, _, p => by have := p.length_eq; simp at this
  | x :: r, y :: q, h1, h2, p => by
    have a := List.pairwise_cons.mp h1
    have b := List.pairwise_cons.mp h2
    have e : x = y := by
      have hx : x ∈ y :: q := p.mem_iff.mp List.mem_cons_self
      have hy : y ∈ x :: r := p.mem_iff.mpr List.mem_cons_self
      rcases List.mem_cons.mp hx with e | hx
      · exact e
      · rcases List.mem_cons.mp hy with e | hy
        · exact e.symm
        · have := b.1 x hx
          have := a.1 y hy
          omega
    subst e
    rw [sorted_one a.2 b.2 (List.perm_cons _ |>.mp p)]
def oSorted (l : List D) (M : Mem) : OV := match l with
  | [.ref n] => match (seqOf M n).bind intsD with
    | some ns => if ns.length < 64 then some (.ref M.length, M ++ [.lst ((sortI ns).map D.int)]) else none
    | none => none
  | _ => none
theorem bl_sorted : BlOk T X oSorted (rSorted X.K) := fun w l xs Q o r h => by
  unfold oSorted at h
  split at h
  · rename_i n
    obtain ⟨x, e, rd⟩ := r.one
    obtain ⟨_, e1⟩ := rd.ref
    subst e1
    split at h
    · rename_i ns c
      obtain ⟨s, _⟩ := o.intsAt c
      split at h
      · rename_i hz
        refine ⟨_, ns, e, s, hz, fun ns' p pm so hp => ?_⟩
        have e2 : ns' = sortI ns := sorted_one so (sortI_sorted ns) (pm.trans (sortI_perm ns).symm)
        subst e2
        exact PostV.lst h o (RelL.mkInts _) p hp
      · exact h.elim
    · exact h.elim
  · exact h.elim
/-! isinstance -/
def tyOf (M : Mem) : D → Option String
  | .non => some "NoneType"
  | .bl _ => some "bool"
  | .int _ => some "int"
  | .str _ => some "str"
  | .tup _ => some "tuple"
  | .ref n => (seqOf M n).map fun _ => "list"
  | _ => none
def isiT (a t : String) : Option Bool := if a = t then some true else if a = "bool" ∧ t = "int" then some true else
  if t = "int" ∨ t = "bool" ∨ t = "str" ∨ t = "tuple" ∨ t = "list" then (if a = "NoneType" ∨ a = "int" ∨ a = "bool" ∨ a = "str" ∨ a = "tuple" ∨ a = "list" then some false else none) else none
theorem isiT_ok {a t : String} {b : Bool} (h : isiT a t = some b) : kitB a t = some b := by
  unfold isiT at h
  split at h
  · rename_i e
    subst e
    cases h
    unfold kitB
    rw [if_pos (beq_self_eq_true _)]
  · split at h
    · rename_i e
      obtain ⟨rfl, rfl⟩ := e
      cases h
      decide +kernel
    · split at h
      · rename_i n1 n2 ht
        split at h
        · rename_i ha
          cases h
          rcases ht with rfl | rfl | rfl | rfl | rfl <;> rcases ha with rfl | rfl | rfl | rfl | rfl | rfl <;> first | exact absurd rfl n1 | exact absurd ⟨rfl, rfl⟩ n2 | decide +kernel
        · cases h
      · cases h
def oIsi (l : List D) (M : Mem) : OV := match l with
  | [d, .ty t] => (tyOf M d).bind fun a => (isiT a t).map fun b => (.bl b, M)
  | _ => none
theorem tyOf_ok {R : RC} {w : Wd} (o : w.Ok R) {d : D} {v : V} {a : String} (h : tyOf w.M d = some a) (r : RelD R w d v) : TyX R.K w.H v (.type a) := by
  cases d with
  | non => cases h; unfold RelD at r; subst r; exact .base .non
  | bl b => cases h; unfold RelD at r; subst r; exact .base (.bl b)
  | int b => cases h; unfold RelD at r; subst r; exact .base (.int b)
  | str b => cases h; unfold RelD at r; subst r; exact .base (.str b)
  | tup l =>
    cases h
    obtain ⟨p, xs, e, s, _⟩ := r.tupI
    subst e
    rcases s with (s | ⟨ob, s⟩) | ⟨ob, its, n, k, c, _⟩
    · exact .base (.tup s)
    · exact .fTuple s
    · exact .kTuple k c
  | ref n =>
    obtain ⟨_, e⟩ := r.ref
    subst e
    have h' : ((seqOf w.M n).map fun _ => "list") = some a := h
    cases c : seqOf w.M n with
    | none => rw [c] at h'; cases h'
    | some l =>
      rw [c] at h'
      cases h'
      obtain ⟨_, xs, _, _, s | ⟨ob, s⟩⟩ := o.seq c
      · exact .base (.lst s)
      · exact .base (.frz s)
  | _ => cases h
theorem bl_isi : BlOk T X oIsi (rIsi X.K) := fun w l xs Q o r h => by
  unfold oIsi at h
  split at h
  · rename_i d t
    obtain ⟨x, y, e, r1, r2⟩ := r.two
    unfold RelD at r2
    subst r2
    cases c : tyOf w.M d with
    | none => rw [c] at h; exact h.elim
    | some a =>
      rw [c] at h
      have h' : PostV (rc T X) w Q ((isiT a t).map fun b => (.bl b, w.M)) := h
      cases c2 : isiT a t with
      | none => rw [c2] at h'; exact h'.elim
      | some b =>
        rw [c2] at h'
        exact ⟨x, .ty t, .type a, .type t, b, e, ClsV.ty t, tyOf_ok o c r1, kit_ty (isiT_ok c2), PostV.val h' o .mkBl⟩
  · exact h.elim
end
end Pd
namespace Pd
open PySem PySem.Spec PyProof.Rows L2
/-! ### canonical readings -/
def tE {α β : Type} (R : RC) (W : WX) (rel : Wd → α → β → Prop) (f : EF α) : St → Hp → (β → Hp → Prop) → Prop :=
  fun σ H Q => ∃ w δ, w.H = H ∧ w.Ok R ∧ SRel R w δ σ ∧ Post R W w σ rel Q (f δ w.M)
section
variable {T : TB} {W : WX} {X : Cx}
theorem EV.pe {e : Expr} {f : EF D} (h : EV T W X e f) : PE X e (tE (rc T X) W (RelD (rc T X)) f) := by
  obtain ⟨t, p, q⟩ := h
  refine ⟨fun pins s σ H Q I ⟨w, δ, e1, o, sr, k⟩ => ?_⟩
  subst e1
  exact p.run pins s σ w.H Q I (q w δ σ Q o sr k)
theorem ET.pt {e : Expr} {f : EF Bool} (h : ET T W X e f) : PT X e (tE (rc T X) W relB f) := by
  obtain ⟨t, p, q⟩ := h
  refine ⟨fun pins s σ H Q I ⟨w, δ, e1, o, sr, k⟩ => ?_⟩
  subst e1
  exact p.run pins s σ w.H Q I (q w δ σ Q o sr k)
end
/-! ### targets -/
def wipeD (δ : DEnv) : List Nat → DEnv
  | [] => δ
  | v :: vs => (wipeD δ vs).set v none
theorem SRel.wipe {R : RC} {w : Wd} {δ : DEnv} {σ : St} (s : SRel R w δ σ) : ∀ vs, SRel R w (wipeD δ vs) (wipe σ vs)
  | [] => s
  | v :: vs => (SRel.wipe s vs).forget v
abbrev GF (α : Type) := α → DEnv → Mem → Option (DEnv × Mem)
def PostG (R : RC) (w : Wd) (vs : List Nat) (σ : St) (Q : St → Hp → Prop) : Option (DEnv × Mem) → Prop
  | some p => ∀ w' σ', w'.M = p.2 → w.le w' → w'.Ok R → SRel R w' p.1 σ' → (∀ us, (∀ i ∈ vs, i ∈ us) → L2.wipe σ' us = L2.wipe σ us) → Q σ' w'.H
  | none => False
/-- a target; vs: the slots that it stores -/
def EG (T : TB) (X : Cx) (tg : Expr) (vs : List Nat) (g : GF D) : Prop :=
  ∃ t, PG X tg t ∧ ∀ w δ σ d v Q, w.Ok (rc T X) → SRel (rc T X) w δ σ → RelD (rc T X) w d v → PostG (rc T X) w vs σ Q (g d δ w.M) → t v σ w.H Q
def EGs (T : TB) (X : Cx) (ts : List Expr) (vs : List Nat) (g : GF (List D)) : Prop :=
  ∃ t, PGs X ts t ∧ ∀ w δ σ d v Q, w.Ok (rc T X) → SRel (rc T X) w δ σ → RelL (rc T X) w d v → PostG (rc T X) w vs σ Q (g d δ w.M) → t v σ w.H Q
def gNm (i : Nat) : GF D := fun d δ M => some (δ.set i (some d), M)
def gsNil : GF (List D) := fun l δ M => match l with
  | [] => some (δ, M)
  | _ => none
def gsCons (g : GF D) (h : GF (List D)) : GF (List D) := fun l δ M => match l with
  | d :: r => (g d δ M).bind fun p => h r p.1 p.2
  | [] => none
def gTp (n : Nat) (h : GF (List D)) : GF D := fun d δ M => match d with
  | .tup l => if l.length = n then h l δ M else none
  | _ => none
theorem wipe_set {σ : St} {i : Nat} {v : Option V} : ∀ {us : List Nat}, i ∈ us → L2.wipe (σ.set i v) us = L2.wipe σ us
  | [], h => by cases h
  | u :: us, h => by
    show (L2.wipe (σ.set i v) us).set u none = (L2.wipe σ us).set u none
    by_cases hi : i ∈ us
    · rw [wipe_set hi]
    · have e : i = u := by
        rcases List.mem_cons.mp h with h | h
        · exact h
        · exact absurd h hi
      subst e
      have : ∀ us : List Nat, i ∉ us → L2.wipe (σ.set i v) us = (L2.wipe σ us).set i v := by
        intro us
        induction us with
        | nil => intro _; rfl
        | cons a r ih =>
          intro hn
          show (L2.wipe (σ.set i v) r).set a none = ((L2.wipe σ r).set a none).set i v
          rw [ih fun z => hn (List.mem_cons_of_mem _ z)]
          exact List.set_comm _ _ fun z => hn (by rw [z]; exact List.mem_cons_self)
      rw [this us hi, List.set_set]
section
variable {T : TB} {X : Cx} {x : Str} {i : Nat} {pos : Pos} {vs us : List Nat} {g : GF D} {h : GF (List D)} {e : Expr} {es : List Expr}
theorem EG.name (hN : X.N.Nodup) (hi : X.N[i]? = some x) (hx : Loc X.env.scope x) (hf : X.fn x = true ∨ X.env.scope.names.lookup x = some .local) : EG T X (.Name x pos) [i] (gNm i) :=
  ⟨gName i, pg_name hN hi hx hf, fun w δ σ d v Q o s r k => k w _ rfl (.refl _) o (s.set r i) fun us h => wipe_set (h i List.mem_cons_self)⟩
theorem EGs.nil : EGs T X [] [] gsNil := by
  refine ⟨gNil, pgs_nil, fun w δ σ d v Q o s r k => ?_⟩
  cases d with
  | nil => unfold RelL at r; exact ⟨r, k w _ rfl (.refl _) o s fun _ _ => rfl⟩
  | cons a b => exact k.elim
theorem EGs.cons (hg : EG T X e vs g) (hh : EGs T X es us h) (hs : (assignEach (e :: es) X.env).map (·.2) = assign e X.env :: (assignEach es X.env).map (·.2)) : EGs T X (e :: es) (vs ++ us) (gsCons g h) := by
  obtain ⟨tg, pg, qg⟩ := hg
  obtain ⟨th, ph, qh⟩ := hh
  refine ⟨gCons tg th, pgs_cons pg ph hs, fun w δ σ d v Q o s r k => ?_⟩
  cases d with
  | nil => exact k.elim
  | cons a b =>
    unfold RelL at r
    obtain ⟨x, q, e1, ra, rb⟩ := r
    subst e1
    refine ⟨x, q, rfl, qg w δ σ a x _ o s ra ?_⟩
    have k' : PostG (rc T X) w (vs ++ us) σ Q ((g a δ w.M).bind fun p => h b p.1 p.2) := k
    cases c : g a δ w.M with
    | none => rw [c] at k'; exact k'.elim
    | some p =>
      rw [c] at k'
      intro w1 σ1 e1 l1 o1 s1 u1
      refine qh w1 p.1 σ1 b q Q o1 s1 (RelL.mono l1 _ _ rb) ?_
      rw [e1]
      have k2 : PostG (rc T X) w (vs ++ us) σ Q (h b p.1 p.2) := k'
      cases c2 : h b p.1 p.2 with
      | none => rw [c2] at k2; exact k2.elim
      | some p2 =>
        rw [c2] at k2
        intro w2 σ2 e2 l2 o2 s2 u2
        refine k2 w2 σ2 e2 (l1.trans l2) o2 s2 fun ks hk => ?_
        rw [u2 ks fun i hi => hk i (List.mem_append_right _ hi), u1 ks fun i hi => hk i (List.mem_append_left _ hi)]
theorem EG.tup {k n : Nat} (hc : X.calm = true) (hh : EGs T X es us h) (hn : (assignEach es X.env).length = n) (hst : (assignEach es X.env).findIdx? (·.1) = none) : EG T X (.Tuple es k pos) us (gTp n h) := by
  obtain ⟨th, ph, qh⟩ := hh
  refine ⟨_, pg_tup hc ph hn hst, fun w δ σ d v Q o s r k => ?_⟩
  cases d with
  | tup l =>
    obtain ⟨p, xs, e1, s1, rl⟩ := r.tupI
    have k' : PostG (rc T X) w us σ Q (if l.length = n then h l δ w.M else none) := k
    split at k'
    · rename_i hl
      exact ⟨p, xs, e1, s1, by rw [rl.length]; exact hl, qh w δ σ l xs Q o s rl k'⟩
    · exact k'.elim
  | _ => exact k.elim
end
/-- o[i] = .. -/
def gSb (f i : EF D) : GF D := fun d δ M => match f δ M with
  | .ok a M1 => match i δ M1 with
    | .ok b M2 => match a, b with
      | .ref n, .int k => match lstOf M2 n with
        | some l => (ixN l.length k).map fun j => (δ, M2.set n (.lst (l.set j d)))
        | none => none
      | _, _ => none
    | _ => none
  | _ => none
theorem EG.sub {T : TB} {X : Cx} {W : WX} {o i : Expr} {f g : EF D} {pos : Pos} (hf : EV T W X o f) (hg : EV T W X i g) (ha : ∀ v, assign (.Subscript o i pos) X.env v = (do
      let ov ← holding [v] (eval o X.env)
      let iv ← holding [v, ov] (eval i X.env)
      standAt pos
      holding [v, ov, iv] (setItem ov iv v)
      release [v, ov, iv] [])) : EG T X (.Subscript o i pos) [] (gSb f g) := by
  obtain ⟨ta, pa, qa⟩ := hf
  obtain ⟨tb, pb, qb⟩ := hg
  refine ⟨_, pg_sub pa pb set_list ha, fun w δ σ d v Q ok s r k => ?_⟩
  unfold gSb at k
  split at k
  · rename_i a M1 e1
    refine qa w δ σ _ ok s ?_
    rw [e1]
    intro w1 v1 m1 l1 o1 r1
    subst m1
    split at k
    · rename_i b M2 e2
      refine qb w1 δ σ _ o1 (s.mono l1) ?_
      rw [e2]
      intro w2 v2 m2 l2 o2 r2
      subst m2
      split at k
      · rename_i n j
        split at k
        · rename_i l c
          obtain ⟨hn, hM, xs, hH, rl⟩ := o2.lst c
          obtain ⟨_, ev⟩ := (RelD.mono l2 _ _ r1).ref
          unfold RelD at r2
          cases c2 : ixN l.length j with
          | none => rw [c2] at k; exact k.elim
          | some q =>
            rw [c2] at k
            have rv := RelD.mono (l1.trans l2) _ _ r
            obtain ⟨op, lp⟩ := o2.putted hM hH trivial (m := .lst (l.set q d)) (u := .lst (xs.set q v)) (fun w' le => ⟨_, rfl, RelL.mono le _ _ (RelL.set rv q rl)⟩) (fun _ z => by cases z)
            exact ⟨_, xs, j, q, ev, r2, hH, by rw [rl.length]; exact c2, k (w2.put n (.lst (l.set q d)) (.lst (xs.set q v))) σ rfl ((l1.trans l2).trans lp) op (s.mono ((l1.trans l2).trans lp)) fun _ _ => rfl⟩
        · exact k.elim
      · exact k.elim
    · exact k.elim
  · exact k.elim
/-! ### statements -/
def PostS (R : RC) (W : WX) (w : Wd) (D : Ends) : ResS → Prop
  | .nx δ M => ∀ w' σ', w'.M = M → w.le w' → w'.Ok R → SRel R w' δ σ' → D.nx σ' w'.H
  | .rt d M => ∀ w' v, w'.M = M → w.le w' → w'.Ok R → RelD R w' d v → D.rt v w'.H
  | .bk δ M => ∀ w' σ', w'.M = M → w.le w' → w'.Ok R → SRel R w' δ σ' → D.bk σ' w'.H
  | .ct δ M => ∀ w' σ', w'.M = M → w.le w' → w'.Ok R → SRel R w' δ σ' → D.ct σ' w'.H
  | .exc x δ M => ∀ w' σ' cls dx, w'.M = M → w.le w' → w'.Ok R → SRel R w' δ σ' → RelX R w' x cls dx → W cls dx σ' w'.H
  | .bad => False
theorem PostS.at {R : RC} {W : WX} {w w' : Wd} {E : Ends} (l : w.le w') : ∀ {r : ResS}, PostS R W w E r → PostS R W w' E r
  | .nx _ _, h => fun w2 σ e l2 o s => h w2 σ e (l.trans l2) o s
  | .rt _ _, h => fun w2 σ e l2 o s => h w2 σ e (l.trans l2) o s
  | .bk _ _, h => fun w2 σ e l2 o s => h w2 σ e (l.trans l2) o s
  | .ct _ _, h => fun w2 σ e l2 o s => h w2 σ e (l.trans l2) o s
  | .exc _ _ _, h => fun w2 σ c d e l2 o s x => h w2 σ c d e (l.trans l2) o s x
  | .bad, h => h
def ES (T : TB) (W : WX) (X : Cx) (st : Stmt) (f : DS) : Prop :=
  ∃ t, PS X st t ∧ ∀ w δ σ E, w.Ok (rc T X) → SRel (rc T X) w δ σ → PostS (rc T X) W w E (f δ w.M) → t E σ w.H
def ESs (T : TB) (W : WX) (X : Cx) (st : List Stmt) (f : DS) : Prop :=
  ∃ t, PSs X st t ∧ ∀ w δ σ E, w.Ok (rc T X) → SRel (rc T X) w δ σ → PostS (rc T X) W w E (f δ w.M) → t E σ w.H
/-- from a value on -/
def onV {α : Type} (r : Res α) (δ : DEnv) (k : α → Mem → ResS) : ResS := match r with
  | .ok a M => k a M
  | .exc x M => .exc x δ M
  | .bad => .bad
def onG (r : Option (DEnv × Mem)) (k : DEnv → Mem → ResS) : ResS := match r with
  | some p => k p.1 p.2
  | none => .bad
def sBad : DS := fun _ _ => .bad
def sNil : DS := fun δ M => .nx δ M
def sSeq (f g : DS) : DS := fun δ M => match f δ M with
  | .nx δ1 M1 => g δ1 M1
  | r => r
def sAsg (f : EF D) (g : GF D) : DS := fun δ M => onV (f δ M) δ fun d M1 => onG (g d δ M1) .nx
def sPar (js : List Nat) (f : EF (List D)) : DS := fun δ M => onV (f δ M) δ fun l M1 => if l.length = js.length then .nx ((js.zip l).foldl (fun δ p => δ.set p.1 (some p.2)) δ) M1 else .bad
def sDrop (f : EF D) : DS := fun δ M => onV (f δ M) δ fun _ M1 => .nx δ M1
def sRet (f : EF D) : DS := fun δ M => onV (f δ M) δ fun d M1 => .rt d M1
def sRetN : DS := fun _ M => .rt .non M
def sIf (c : EF Bool) (f g : DS) : DS := fun δ M => onV (c δ M) δ fun b M1 => if b = true then f δ M1 else g δ M1
def sBrk : DS := fun δ M => .bk δ M
def sCnt : DS := fun δ M => .ct δ M
theorem onV_post {α β : Type} {R : RC} {W : WX} {w : Wd} {σ : St} {δ : DEnv} {E : Ends} {rel : Wd → α → β → Prop} {r : Res α} {k : α → Mem → ResS} {Q : β → Hp → Prop} (s : SRel R w δ σ) (h : PostS R W w E (onV r δ k))
    (hk : ∀ a w' b, w.le w' → w'.Ok R → rel w' a b → PostS R W w' E (k a w'.M) → Q b w'.H) : Post R W w σ rel Q r := by
  cases r with
  | ok a M => exact fun w' b e l o q => hk a w' b l o q (by subst e; exact PostS.at l h)
  | exc x M => exact fun w' c d e l o q => h w' σ c d e l o (s.mono l) q
  | bad => exact h
section
variable {T : TB} {W : WX} {X : Cx} {st : Stmt} {rest : List Stmt} {e : Expr} {pos : Pos} {f : EF D} {g : DS} {g2 : DS}
theorem ES.bad : ES T W X st sBad := ⟨tNever, ps_never, fun _ _ _ _ _ _ h => h⟩
theorem ESs.bad : ESs T W X rest sBad := ⟨tNever, pss_never, fun _ _ _ _ _ _ h => h⟩
theorem ESs.nil : ESs T W X [] sNil := ⟨_, pss_nil, fun w δ σ E o s h => h w σ rfl (.refl _) o s⟩
theorem ESs.cons (h1 : ES T W X st g) (h2 : ESs T W X rest g2) : ESs T W X (st :: rest) (sSeq g g2) := by
  obtain ⟨t1, p1, q1⟩ := h1
  obtain ⟨t2, p2, q2⟩ := h2
  refine ⟨_, pss_cons p1 p2, fun w δ σ E o s h => ?_⟩
  refine q1 w δ σ _ o s ?_
  unfold sSeq at h
  split at h
  · rename_i δ1 M1 e1
    rw [e1]
    intro w' σ' m l o' s'
    subst m
    exact q2 w' δ1 σ' E o' s' (PostS.at l h)
  · rename_i r hr
    cases c : g δ w.M with
    | nx δ1 M1 => exact absurd c (hr δ1 M1)
    | rt d M => rw [c] at h; exact h
    | bk d M => rw [c] at h; exact h
    | ct d M => rw [c] at h; exact h
    | exc x d M => rw [c] at h; exact h
    | bad => rw [c] at h; exact h
theorem ES.pass : ES T W X (.Pass pos) sNil := ⟨_, ps_pass, fun w δ σ E o s h => h w σ rfl (.refl _) o s⟩
theorem ES.brk : ES T W X (.Break pos) sBrk := ⟨_, ps_break, fun w δ σ E o s h => h w σ rfl (.refl _) o s⟩
theorem ES.cnt : ES T W X (.Continue pos) sCnt := ⟨_, ps_continue, fun w δ σ E o s h => h w σ rfl (.refl _) o s⟩
theorem ES.expr (he : EV T W X e f) (hs : swapsWith e none pos.line X.env = pure false) : ES T W X (.Expr e pos) (sDrop f) := by
  obtain ⟨ta, pa, qa⟩ := he
  refine ⟨_, ps_expr pa hs, fun w δ σ E o s h => qa w δ σ _ o s (onV_post s h fun a w' b l o' r k => k w' σ rfl (.refl _) o' (s.mono l))⟩
theorem ES.ret (he : EV T W X e f) : ES T W X (.Return (some e) pos) (sRet f) := by
  obtain ⟨ta, pa, qa⟩ := he
  refine ⟨_, ps_ret pa, fun w δ σ E o s h => qa w δ σ _ o s (onV_post s h fun a w' b l o' r k => k w' b rfl (.refl _) o' r)⟩
theorem ES.retN : ES T W X (.Return none pos) sRetN := ⟨_, ps_retN, fun w δ σ E o s h => h w .non rfl (.refl _) o .mkNon⟩
theorem ES.ite {c : Expr} {a b : List Stmt} {c0 : EF Bool} (hc : ET T W X c c0) (ha : ESs T W X a g) (hb : ESs T W X b g2) : ES T W X (.If c a b pos) (sIf c0 g g2) := by
  obtain ⟨tc, pc, qc⟩ := hc
  obtain ⟨ta, pa, qa⟩ := ha
  obtain ⟨tb, pb, qb⟩ := hb
  refine ⟨_, ps_if pc pa pb, fun w δ σ E o s h => qc w δ σ _ o s (onV_post s h fun d w' d' l o' r k => ?_)⟩
  cases (show d = d' from r)
  cases d with
  | true => rw [if_pos rfl]; exact qa w' δ σ E o' (s.mono l) k
  | false => rw [if_neg Bool.false_ne_true]; exact qb w' δ σ E o' (s.mono l) k
theorem ES.set {i : Nat} {x : Str} {p : Pos} (hN : X.N.Nodup) (hi : X.N[i]? = some x) (hx : Loc X.env.scope x) (hf : X.fn x = true ∨ X.env.scope.names.lookup x = some .local) (he : EV T W X e f) (hs : swapsWith e (some (.Name x p)) pos.line X.env = pure false) :
    ES T W X (.Assign [.Name x p] e pos) (sAsg f (gNm i)) := by
  obtain ⟨ta, pa, qa⟩ := he
  refine ⟨_, ps_set hN hi hx pa hs hf, fun w δ σ E o s h => qa w δ σ _ o s (onV_post s h fun d w' v l o' r k => ?_)⟩
  exact k w' _ rfl (.refl _) o' ((s.mono l).set r i)
theorem ES.asg {tg : Expr} {vs : List Nat} {gt : GF D} (he : EV T W X e f) (hg : EG T X tg vs gt) (hs : swapsWithSole [tg] e pos.line X.env = pure false) (hw : swappedStores [tg] e X.env = pure none)
    (h1 : (assignEach [tg] X.env).map (·.2) = [assign tg X.env]) : ES T W X (.Assign [tg] e pos) (sAsg f gt) := by
  obtain ⟨ta, pa, qa⟩ := he
  obtain ⟨tg', pg, qg⟩ := hg
  refine ⟨_, ps_asg pa pg hs hw h1, fun w δ σ E o s h => qa w δ σ _ o s (onV_post s h fun d w' v l o' r k => ?_)⟩
  refine qg w' δ σ d v _ o' (s.mono l) r ?_
  cases c : gt d δ w'.M with
  | none => rw [c] at k; exact k.elim
  | some p => rw [c] at k; exact fun w2 σ2 e2 l2 o2 s2 _ => k w2 σ2 e2 l2 o2 s2
theorem ES.par {i j : Nat} {x y : Str} {a b : Expr} {ga : EF (List D)} {px py pt : Pos} {kt k2 pt2} (hc : X.calm = true) (hN : X.N.Nodup) (hi : X.N[i]? = some x) (hj : X.N[j]? = some y) (hij : i ≠ j)
    (hx : X.env.scope.names.lookup x = some .local) (hy : X.env.scope.names.lookup y = some .local) (ha : EA T W X [a, b] ga)
    (hw : swappedStores [.Tuple [.Name x px, .Name y py] kt pt] (.Tuple [a, b] k2 pt2) X.env = pure (some [x, y])) (hs : swapsWithSole [.Tuple [.Name x px, .Name y py] kt pt] (.Tuple [a, b] k2 pt2) pos.line X.env = pure false) :
    ES T W X (.Assign [.Tuple [.Name x px, .Name y py] kt pt] (.Tuple [a, b] k2 pt2) pos) (sPar [i, j] ga) := by
  obtain ⟨ta, pa, qa⟩ := ha
  refine ⟨_, ps_par hc hN hi hj hij hx hy pa hw hs, fun w δ σ E o s h => qa w δ σ _ o s (onV_post s h fun d w' v l o' r k => ?_)⟩
  split at k
  · rename_i hl
    match d, hl with
    | [d1, d2], _ =>
      obtain ⟨v1, v2, e, r1, r2⟩ := RelL.two r
      exact ⟨v1, v2, e, k w' _ rfl (.refl _) o' (((s.mono l).set r1 i).set r2 j)⟩
  · exact k.elim
end
end Pd
namespace Pd
open PySem PySem.Spec PyProof.Rows L2
/-! ### enumerate over a tuple, min and max of a tuple -/
theorem enT_new {v : Value} {o : Obj} {H : Heap → Prop} (B : Begins v o H) :
    Meets (Builtin.«enumerate.__new__» ⟨[.type "enumerate", v], []⟩) (fun _ R s => H s.heap ∧
      R (.ok (.ret (.ref (s.heap.push o).objs.size))) { s with heap := (s.heap.push o).push { cls := .type "enumerate", data := .fields #[.none, .bool false, .ref s.heap.objs.size, rawInt 0, .none, .none] } }) :=
  .of_wp fun prog w A R s h => by
    obtain ⟨hp, g, d, tk, os⟩ := s
    obtain ⟨hH, h⟩ := h
    have sube := sub_enumerate
    have qi : ∀ {A' : Around} {E : Value → Shared → Prop} {Q : Value → Shared → Prop}, Q (.ref hp.objs.size) ⟨hp.push o, g, d, tk, os⟩ → wpAny (model prog w) A' (pyIter v) Q E ⟨hp, g, d, tk, os⟩ := fun q => B.iter prog w _ _ ⟨hp, g, d, tk, os⟩ _ hH q
    wp_walk using qi
    refine wpAny_stack_any fun st => wpAny_pure ?_
    split
    · rename_i cl _ _ _ _ _
      cases (cl == Value.type "enumerate") <;> (wp_walk using qi; exact ⟨_, rfl, h⟩)
    · wp_walk using qi
      exact ⟨_, rfl, h⟩
theorem enT_call {prog : Program} {w : World} {A : Around} {E : Value → Shared → Prop} {s : Shared} {t : Addr} {items : Array Value} {Q : Value → Shared → Prop} (ht : s.heap.IsTuple t items)
    (h : ∀ h', IsEnum h' (s.heap.objs.size + 1) s.heap.objs.size 0 .none → h'.IsTupleIter s.heap.objs.size t 0 → (∀ b o, s.heap.get? b = some o → h'.get? b = some o) → Q (.ref (s.heap.objs.size + 1)) { s with heap := h' }) :
    wpAny (model prog w) A (call (.type "enumerate") [.ref t]) Q E s := by
  have B := begins_tuple t items
  refine callType_new F.called_enumerate (by decide) (F.typeCall_enumerate_1 _) (F.newCall_enumerate_1 _) (fun obj => F.args_object_init_2 obj _) F.entry_enumerate_new (enT_new B) ⟨ht, ?_⟩
  generalize ho : ({ cls := .type "tuple_iterator", data := .fields #[.ref t, .int 0 0] } : Obj) = o at B
  have hz : (s.heap.push o).objs.size = s.heap.objs.size + 1 := Heap.size_push ..
  show _ ∧ _
  rw [hz]
  have he : IsEnum ((s.heap.push o).push { cls := .type "enumerate", data := .fields #[.none, .bool false, .ref s.heap.objs.size, rawInt 0, .none, .none] }) (s.heap.objs.size + 1) s.heap.objs.size 0 .none := by
    have e := Heap.get?_push_size (s.heap.push o) (o := { cls := .type "enumerate", data := .fields #[.none, .bool false, .ref s.heap.objs.size, rawInt 0, .none, .none] }) rfl
    rw [hz] at e
    exact e
  refine ⟨⟨_, he, rfl⟩, h _ he ?_ fun b o x => Heap.get?_push_of_some _ (Heap.get?_push_of_some _ x)⟩
  subst ho
  exact ⟨_, Heap.get?_push_of_some _ (Heap.get?_push_size _ rfl), rfl, rfl⟩
/-- the tuple at a as it stands at each turn, each item in a new pair -/
def ItT (K : PySem.W.Frag) (a : Addr) : It :=
  ⟨fun i H => ∃ (xs : List V) (x : V), SqT K H a xs ∧ xs[i]? = some x, fun i H v H' => ∃ T x, v = .ref T ∧ H T = none ∧ H' = upd H T (.tup [.int (i : Nat), x]) ∧ ∀ xs, SqT K H a xs → xs[i]? = some x, fun i H => ∃ xs : List V, SqT K H a xs ∧ xs.length ≤ i⟩
theorem turn_enT {P : Program} {w : World} {K : PySem.W.Frag} {elts : List Expr} {kk : Nat} {tpos : Pos} (a e it : Addr) (hai : a ≠ it) (hae : a ≠ e) :
    Turn P w K (.Tuple elts kk tpos) (ItT K a) [e, it] e (fun i h => (∃ old, IsEnum h e it ((i : Nat) : Int) old) ∧ h.IsTupleIter it a i ∧ e ≠ it) where
  mem := by simp
  obj := fun i h st b hb => by
    obtain ⟨⟨old, he⟩, ⟨o, ho, hc, hd⟩, _⟩ := st
    have e' : b = e ∨ b = it := by simpa using hb
    rcases e' with z | z <;> rw [z]
    · exact ⟨_, he, fun v q => nomatch q⟩
    · exact ⟨o, ho, fun v q => by rw [hd] at q; cases q⟩
  keep := fun i h h' ⟨⟨old, he⟩, hi, hne⟩ k => ⟨⟨old, k e (by simp) _ he⟩, hi.at fun o q => k it (by simp) o q, hne⟩
  item := by
    intro X hP hw hK hc i pins s σ H E I hf st hg
    subst hP hw hK
    obtain ⟨⟨old, he⟩, hit, hne⟩ := st
    obtain ⟨xs, x, hq, hx⟩ := hg
    obtain ⟨its, rv, p, hz⟩ := I.tuple hq
    obtain ⟨u, hu, ru⟩ := rv.get hx
    have hel : e < s.heap.objs.size := Heap.lt_size he
    have hil : it < s.heap.objs.size := by obtain ⟨_, q, _⟩ := hit; exact Heap.lt_size q
    have hsz : i < its.toArray.size := by
      have := (List.getElem?_eq_some_iff.mp hu).1
      simpa using this
    refine wpAny_pyNext_enum_itemD (Draws.tuple (A := X.A.in1) (I.ok.hd hc) it a hai its.toArray) he ⟨hit, p⟩ hsz hne (by simp [hne, Ne.symm hae]) fun y h' tk hy ho hst' hT _ hk => ?_
    have hy : y = u := by
      have hy : its.toArray[i]? = some y := hy
      have : its.toArray[i]? = some u := by simpa using hu
      rw [this] at hy
      exact (Option.some.inj hy).symm
    subst hy
    refine ⟨_, rfl, wpAny_letOwnedTupleGo_enum (s := { s with heap := h', toks := _ }) ho fun h'' he' sb => ?_⟩
    have hT2 : h''.get? s.heap.objs.size = some { cls := .type "tuple", data := .seq #[.int i tk, y] } := (sb.2 _ (Nat.ne_of_gt hel)).trans hT
    have new : ObjOk X.prog X.w (upd H s.heap.objs.size (.tup [.int (i : Nat), x])) h'' s.heap.objs.size (.tup [.int (i : Nat), x]) :=
      ⟨by show 2 ≤ sizeLine; decide, [.int i tk, y], .cons ⟨_, rfl⟩ (.cons ru .nil), ⟨_, hT2, rfl, _, rfl⟩⟩
    have I1 := I.turnedNew (t' := tk + 1) (ch := [e, it]) (h' := h'') (fun b ob hb q => (sb.2 b (fun z => hb (by simp [z]))).trans (hk b ob (fun z => hb (by simp [z])) (fun z => hb (by simp [z])) q)) hf (Nat.le_refl _) new
    refine ⟨.ref s.heap.objs.size, _, I1, rfl, ⟨_, x, rfl, I.hok.fresh (Nat.le_refl _), rfl, fun ys hy => by rw [I.tuple_inj hy hq]; exact hx⟩, ⟨⟨y, ?_⟩, hst'.1.at fun o q => (sb.2 it (Ne.symm hne)).trans q, hne⟩, fun b hb => ?_⟩
    · rw [show ((i + 1 : Nat) : Int) = (i : Int) + 1 by omega]
      exact he'
    · have hb' : b < s.heap.objs.size := by
        have e' : b = e ∨ b = it := by simpa using hb
        rcases e' with z | z <;> rw [z] <;> assumption
      rw [upd_ne (Nat.ne_of_lt hb')]
      exact (hf b hb).1
  done := by
    intro X hP hw hK hc i pins s σ H E I hf st hg
    subst hP hw hK
    obtain ⟨⟨old, he⟩, hit, hne⟩ := st
    obtain ⟨xs, hq, hx⟩ := hg
    obtain ⟨its, rv, p, hz⟩ := I.tuple hq
    obtain ⟨f0, f1, f2, f3, f4, f5⟩ := hf it (by simp)
    have hl := rv.length
    by_cases hi : i = its.toArray.size
    · subst hi
      exact wpAny_pyNext_enum_endD (Draws.tuple (A := X.A.in1) (I.ok.hd hc) it a hai its.toArray) he ⟨hit, p⟩ fun h' eb => ⟨rfl, I.turned (t' := s.toks) (fun b o hb q => eb b o hb q) f0 f1 f3 f4 f5⟩
    · -- past the end: as at the end
      have hend : its.toArray[i]? = none := by simp; omega
      unfold pyNext
      refine wpAny_bind (wpAny_attempt (wpAny_callSpecial?_slot (name := Str.ofString "__next__") ⟨_, he, rfl⟩ F.slot_enumerate_next (wpAny_call_entry F.slot_enumerate_next ⟨_, he, rfl⟩ F.entry_enumerate_next ?_ (F.args_enumerate_next_1 _))))
      show wpAny _ _ (field (.ref e) 2 >>= _) _ _ _
      refine wpAny_bind (wpAny_field he rfl (x := .ref it) rfl ?_)
      refine wpAny_bind (wpAny_nextOf_tuple_end (I.ok.hd hc) hit p hend fun h' x he' hx' => ?_)
      obtain ⟨o, ho, hc'⟩ := hx'
      refine wpAny_bind (wpAny_isInstance (T := "StopIteration") (b := true) ⟨o, ho, hc'⟩ isSubtype_stop ?_)
      exact wpAny_pure ⟨rfl, I.turned (t' := s.toks) (fun b o hb q => he' b o hb q) f0 f1 f3 f4 f5⟩
  self := fun A i s Q E ⟨⟨_, he⟩, _⟩ h => wpAny_pyIter_enum he h
def iEnA (K : PySem.W.Frag) (ta : TA) : TI := fun σ H R => ta σ H fun vs H1 => ∃ a xs, vs = [.ref a] ∧ ((SqT K H1 a xs ∧ R (ItT K a) H1) ∨ (SqL K H1 a xs ∧ R (Ite K a) H1))
theorem pi_enA {X : Cx} {e : Expr} {ta : TA} {p pos tpos : Pos} {elts : List Expr} {kk : Nat} (hg : Gl X "enumerate") (hm : X.mg "enumerate" = none) (ha : PA X [e] ta) (hs : starEach [e] X.env = [(false, eval e X.env)]) :
    PI X (.Tuple elts kk tpos) (.Call (.Name "enumerate" p) [e] [] pos) (iEnA X.K ta) := by
  refine ⟨fun pins s σ H R I h => ?_⟩
  refine Call_ (ld_blt I hg hm boot_enumerate (PyProof.Rows.callWith_type1 (thn (ha.run pos pins s σ H _ I h) fun us s1 ⟨vs, H1, I1, r1, q1⟩ => ?_) hs rfl))
  obtain ⟨a, xs, ex, q1⟩ := q1
  subst ex
  cases r1 with
  | cons r rr =>
    cases rr
    cases r
    have fresh2 : ∀ b, b ∈ [s1.heap.objs.size + 1, s1.heap.objs.size] → FpOk X pins H1 b := fun b hb => by
      have hle : s1.heap.objs.size ≤ b := by
        have e' : b = s1.heap.objs.size + 1 ∨ b = s1.heap.objs.size := by simpa using hb
        rcases e' with z | z <;> rw [z]
        · exact Nat.le_succ _
        · exact Nat.le_refl _
      exact I1.fpOk hle (I1.hok.fresh hle)
    rcases q1 with ⟨hq, q⟩ | ⟨hq, q⟩
    case inr =>
      obtain ⟨its, rv, p', hz⟩ := I1.list hq
      refine call_enumerate_list p'.isList fun h' he hit hsz hk => wpAny_pyIter_enum he ?_
      have I2 : Inv X pins σ H1 { s1 with heap := h' } := I1.kept (t' := s1.toks) hk
      exact ⟨s1.heap.objs.size + 1, [s1.heap.objs.size + 1, s1.heap.objs.size], _, _, H1, rfl, I2, turn_enum a (s1.heap.objs.size + 1) s1.heap.objs.size, ⟨⟨.none, he⟩, hit, Nat.succ_ne_self _⟩, fresh2, q⟩
    obtain ⟨its, rv, p', hz⟩ := I1.tuple hq
    obtain ⟨o', ho', _⟩ := id p'
    have hal : a < s1.heap.objs.size := Heap.lt_size ho'
    refine enT_call p' fun h' he hit hk => wpAny_pyIter_enum he ?_
    have I2 : Inv X pins σ H1 { s1 with heap := h' } := I1.kept (t' := s1.toks) hk
    exact ⟨s1.heap.objs.size + 1, [s1.heap.objs.size + 1, s1.heap.objs.size], _, _, H1, rfl, I2, turn_enT a (s1.heap.objs.size + 1) s1.heap.objs.size (Nat.ne_of_lt hal) (Nat.ne_of_lt (Nat.lt_succ_of_lt hal)), ⟨⟨.none, he⟩, hit, Nat.succ_ne_self _⟩, fresh2, q⟩
end Pd
namespace Pd
open PySem PySem.Spec PyProof.Rows L2
/-! ### what is walked -/
inductive Src where
  | items (l : List D) | live (n : Nat) | liveE (n : Nat)
def Src.item (M : Mem) (i : Nat) : Src → Option (Option D)
  | .items l => some l[i]?
  | .live n => (seqOf M n).map fun l => l[i]?
  | .liveE n => (seqOf M n).map fun l => l[i]?.map fun d => .tup [.int (i : Nat), d]
def Src.size (M : Mem) : Src → Nat
  | .items l => l.length
  | .live n => ((seqOf M n).getD []).length
  | .liveE n => ((seqOf M n).getD []).length
def SrcJ (R : RC) (w0 : Wd) (s : Src) (J : It) : Prop := ∀ (i : Nat) (w : Wd), w0.le w → w.Ok R → match s.item w.M i with
  | some (some d) => J.go i w.H ∧ ∀ x H', J.yld i w.H x H' → ∃ w', w'.H = H' ∧ w'.M = w.M ∧ w.le w' ∧ w'.Ok R ∧ RelD R w' d x
  | some none => J.stop i w.H
  | none => True
theorem SrcJ.at {R : RC} {w0 w1 : Wd} {s : Src} {J : It} (h : SrcJ R w0 s J) (l : w0.le w1) : SrcJ R w1 s J := fun i w l2 o => h i w (l.trans l2) o
def EI (T : TB) (W : WX) (X : Cx) (tg iter : Expr) (f : EF Src) : Prop :=
  ∃ wi, PI X tg iter wi ∧ ∀ w δ σ Q, w.Ok (rc T X) → SRel (rc T X) w δ σ → Post (rc T X) W w σ (fun w' s J => SrcJ (rc T X) w' s J) Q (f δ w.M) → wi σ w.H Q
def dSeqSrc (f : EF D) : EF Src := fun δ M => (f δ M).bind fun a M1 => match a with
  | .tup l => .ok (.items l) M1
  | .ref n => if (seqOf M1 n).isSome then .ok (.live n) M1 else .bad
  | _ => .bad
def intsR (lo : Int) (n : Nat) : List D := (List.range n).map fun k => .int (lo + (k : Nat))
def dRng1 (g : EF (List D)) : EF Src := fun δ M => (g δ M).bind fun l M1 => match l with
  | [.int j] => if -(2 ^ 62) ≤ j ∧ j < 2 ^ 62 then .ok (.items (intsR 0 j.toNat)) M1 else .bad
  | _ => .bad
def dRng2 (g : EF (List D)) : EF Src := fun δ M => (g δ M).bind fun l M1 => match l with
  | [.int i, .int j] => if -(2 ^ 62) ≤ i ∧ i < 2 ^ 62 ∧ -(2 ^ 62) ≤ j ∧ j < 2 ^ 62 then .ok (.items (intsR i (j - i).toNat)) M1 else .bad
  | _ => .bad
def pairsD : List D → List D → List D
  | a :: l, b :: m => .tup [a, b] :: pairsD l m
  | _, _ => []
def dZip (g : EF (List D)) : EF Src := fun δ M => (g δ M).bind fun l M1 => match l with
  | [.tup l, .tup m] => .ok (.items (pairsD l m)) M1
  | _ => .bad
def enumD : Nat → List D → List D
  | _, [] => []
  | i, d :: l => .tup [.int (i : Nat), d] :: enumD (i + 1) l
theorem enumD_get : ∀ (l : List D) (k i : Nat), (enumD k l)[i]? = l[i]?.map fun d => .tup [.int (k + i : Nat), d]
  | [], k, i => by simp [enumD]
  | d :: l, k, 0 => rfl
  | d :: l, k, i + 1 => by
    show (enumD (k + 1) l)[i]? = _
    rw [enumD_get l (k + 1) i, show k + 1 + i = k + (i + 1) by omega]
    rfl
def dEnumL (g : EF (List D)) : EF Src := fun δ M => (g δ M).bind fun l M1 => match l with
  | [.ref n] => if (seqOf M1 n).isSome then .ok (.liveE n) M1 else .bad
  | [.tup l] => .ok (.items (enumD 0 l)) M1
  | _ => .bad
theorem pi_or {X : Cx} {tg e : Expr} {u v : TI} (h1 : PI X tg e u) (h2 : PI X tg e v) : PI X tg e (fun σ H R => u σ H R ∨ v σ H R) :=
  ⟨fun pins s σ H R I h => h.elim (h1.run pins s σ H R I) (h2.run pins s σ H R I)⟩
theorem pairsD_get : ∀ (l m : List D) (i : Nat), (pairsD l m)[i]? = match l[i]?, m[i]? with
    | some a, some b => some (.tup [a, b])
    | _, _ => none
  | [], m, i => by simp [pairsD]
  | a :: l, [], i => by
    simp only [pairsD, List.getElem?_nil]
    split
    · rename_i _ h; cases h
    · rfl
  | a :: l, b :: m, 0 => rfl
  | a :: l, b :: m, i + 1 => by
    show (pairsD l m)[i]? = _
    rw [pairsD_get l m i]
    rfl
section
variable {T : TB} {W : WX} {X : Cx} {e e2 tg : Expr} {f g : EF D} {p pos : Pos}
theorem src_tup {R : RC} {w0 : Wd} {a : Addr} {l : List D} {xs : List V} (s : SqT R.K w0.H a xs) (r : RelL R w0 l xs) : SrcJ R w0 (.items l) (Itt R.K a) := fun i w le o => by
  have s' := le.fr.sqT s
  have r' := RelL.mono le _ _ r
  show match (some l[i]? : Option (Option D)) with
    | some (some d) => _
    | some none => _
    | none => True
  cases c : l[i]? with
  | none =>
    refine ⟨xs, s', ?_⟩
    rw [r'.length]
    exact List.getElem?_eq_none_iff.mp c
  | some d =>
    obtain ⟨x, hx, rx⟩ := r'.get c
    refine ⟨⟨xs, x, s', hx⟩, fun y H' hy => ?_⟩
    obtain ⟨e1, h1⟩ := hy
    have e2 := h1 xs s'
    rw [hx] at e2
    cases e2
    subst e1
    exact ⟨w, rfl, rfl, .refl _, o, rx⟩
theorem src_live {R : RC} {w0 : Wd} {n : Nat} (hn : n < w0.M.length) : SrcJ R w0 (.live n) (Itl R.K (w0.ρ n)) := fun i w le o => by
  show match ((seqOf w.M n).map fun l => l[i]? : Option (Option D)) with
    | some (some d) => _
    | some none => _
    | none => True
  cases c : seqOf w.M n with
  | none => trivial
  | some l =>
    obtain ⟨_, xs, s1, rl, _⟩ := o.seq c
    rw [le.ρ n hn] at s1
    show match (some l[i]? : Option (Option D)) with
      | some (some d) => _
      | some none => _
      | none => True
    cases c2 : l[i]? with
    | none => exact ⟨xs, s1, by rw [rl.length]; exact List.getElem?_eq_none_iff.mp c2⟩
    | some d =>
      obtain ⟨x, hx, rx⟩ := rl.get c2
      refine ⟨⟨xs, x, s1, hx⟩, fun y H' hy => ?_⟩
      obtain ⟨e1, h1⟩ := hy
      have e2 := h1 xs s1
      rw [hx] at e2
      cases e2
      subst e1
      exact ⟨w, rfl, rfl, .refl _, o, rx⟩
theorem EI.seq (he : EV T W X e f) : EI T W X tg e (dSeqSrc f) := by
  refine ⟨_, pi_or (pi_tup he.pe) (pi_list he.pe), fun w δ σ Q o s h => ?_⟩
  cases c : f δ w.M with
  | bad => unfold dSeqSrc at h; rw [c] at h; exact h.elim
  | exc x M =>
    refine .inl ⟨w, δ, rfl, o, s, ?_⟩
    unfold dSeqSrc at h
    rw [c] at h ⊢
    exact h
  | ok d M =>
    unfold dSeqSrc at h
    rw [c] at h
    cases d with
    | tup l =>
      refine .inl ⟨w, δ, rfl, o, s, ?_⟩
      rw [c]
      intro w' v e1 l1 o1 r1
      obtain ⟨a, xs, ev, s1, rl⟩ := r1.tupI
      exact ⟨a, ev, ⟨xs, s1⟩, h w' _ e1 l1 o1 (src_tup s1 rl)⟩
    | ref n =>
      have h' : Post (rc T X) W w σ (fun w' s J => SrcJ (rc T X) w' s J) Q (if (seqOf M n).isSome then .ok (.live n) M else .bad) := h
      split at h'
      · rename_i hs
        refine .inr ⟨w, δ, rfl, o, s, ?_⟩
        rw [c]
        intro w' v e1 l1 o1 r1
        obtain ⟨hn, ev⟩ := r1.ref
        obtain ⟨l, hl⟩ := Option.isSome_iff_exists.mp hs
        rw [← e1] at hl
        obtain ⟨_, xs, s1, _, _⟩ := o1.seq hl
        exact ⟨_, ev, ⟨xs, s1⟩, h' w' _ e1 l1 o1 (src_live hn)⟩
      · exact h'.elim
    | _ => exact h.elim
theorem intsR_get (lo : Int) (n i : Nat) : (intsR lo n)[i]? = if i < n then some (.int (lo + (i : Nat))) else none := by
  unfold intsR
  rw [List.getElem?_map]
  by_cases h : i < n
  · rw [List.getElem?_range h, if_pos h]; rfl
  · rw [List.getElem?_eq_none (by rw [List.length_range]; omega), if_neg h]; rfl
theorem src_rng {R : RC} {w0 : Wd} {lo : Int} {n : Nat} : SrcJ R w0 (.items (intsR lo n)) (Itr lo n) := fun i w le o => by
  show match (some (intsR lo n)[i]? : Option (Option D)) with
    | some (some d) => _
    | some none => _
    | none => True
  rw [intsR_get]
  by_cases h : i < n
  · rw [if_pos h]
    exact ⟨h, fun x H' hy => ⟨w, hy.1.symm, rfl, .refl _, o, by rw [hy.2]; exact .mkInt⟩⟩
  · rw [if_neg h]
    exact (show n ≤ i by omega)
theorem EI.rng1 {ga : EF (List D)} (hg : Gl X "range") (hm : X.mg "range" = none) (ha : EA T W X [e] ga) (hs : starEach [e] X.env = [(false, eval e X.env)]) : EI T W X tg (.Call (.Name "range" p) [e] [] pos) (dRng1 ga) := by
  obtain ⟨t, pa, qa⟩ := ha
  refine ⟨_, pi_range1 hg hm pa hs, fun w δ σ Q o s h => ?_⟩
  unfold dRng1 at h
  refine qa w δ σ _ o s (h.bind fun l w1 xs l1 o1 r1 h1 => ?_)
  split at h1
  · rename_i j
    obtain ⟨x, e2, r2⟩ := r1.one
    unfold RelD at r2
    subst r2
    split at h1
    · rename_i hj
      exact ⟨j, e2, hj.1, hj.2, h1 w1 _ rfl (.refl _) o1 src_rng⟩
    · exact h1.elim
  · exact h1.elim
theorem EI.rng2 {ga : EF (List D)} (hg : Gl X "range") (hm : X.mg "range" = none) (ha : EA T W X [e, e2] ga) (hs : starEach [e, e2] X.env = [(false, eval e X.env), (false, eval e2 X.env)]) (hs2 : starEach [e2] X.env = [(false, eval e2 X.env)]) :
    EI T W X tg (.Call (.Name "range" p) [e, e2] [] pos) (dRng2 ga) := by
  obtain ⟨t, pa, qa⟩ := ha
  refine ⟨_, pi_range2 hg hm pa hs hs2, fun w δ σ Q o s h => ?_⟩
  unfold dRng2 at h
  refine qa w δ σ _ o s (h.bind fun l w1 xs l1 o1 r1 h1 => ?_)
  split at h1
  · rename_i i j
    obtain ⟨x, y, e2, r2, r3⟩ := r1.two
    unfold RelD at r2 r3
    subst r2 r3
    split at h1
    · rename_i hj
      exact ⟨i, j, e2, hj, h1 w1 _ rfl (.refl _) o1 src_rng⟩
    · exact h1.elim
  · exact h1.elim
theorem src_zipT {R : RC} {w0 : Wd} {a b : Addr} {l m : List D} {xs ys : List V} (s : SqT R.K w0.H a xs) (r : RelL R w0 l xs) (s2 : SqT R.K w0.H b ys) (r2 : RelL R w0 m ys) : SrcJ R w0 (.items (pairsD l m)) (RZ.ItzT R.K a b) := fun i w le o => by
  have s' := le.fr.sqT s
  have s2' := le.fr.sqT s2
  have r' := RelL.mono le _ _ r
  have r2' := RelL.mono le _ _ r2
  show match (some (pairsD l m)[i]? : Option (Option D)) with
    | some (some d) => _
    | some none => _
    | none => True
  rw [pairsD_get]
  cases c : l[i]? with
  | none => exact ⟨xs, ys, s', s2', .inl (by rw [r'.length]; exact List.getElem?_eq_none_iff.mp c)⟩
  | some d =>
    cases c2 : m[i]? with
    | none => exact ⟨xs, ys, s', s2', .inr (by rw [r2'.length]; exact List.getElem?_eq_none_iff.mp c2)⟩
    | some d2 =>
      obtain ⟨x, hx, rx⟩ := r'.get c
      obtain ⟨y, hy, ry⟩ := r2'.get c2
      refine ⟨⟨xs, ys, x, y, s', s2', hx, hy⟩, fun v H' hv => ?_⟩
      obtain ⟨p, x', y', ev, hp, eH, h1, h2⟩ := hv
      have e1 := h1 xs s'
      have e2 := h2 ys s2'
      rw [hx] at e1
      rw [hy] at e2
      cases e1
      cases e2
      obtain ⟨o', l'⟩ := o.beside (u := .tup [x, y]) hp
      refine ⟨⟨w.ρ, w.M, upd w.H p (.tup [x, y]), w.cp⟩, eH.symm, rfl, l', o', ?_⟩
      unfold RelD
      exact ⟨p, [x, y], ev, .inl (.inl upd_same), RelL.mono l' _ _ (.cons rx (.cons ry .nil))⟩
theorem EI.zip {ga : EF (List D)} {elts : List Expr} {kk : Nat} {tpos : Pos} (hg : Gl X "zip") (hm : X.mg "zip" = none) (ha : EA T W X [e, e2] ga) (hs : starEach [e, e2] X.env = (false, eval e X.env) :: starEach [e2] X.env) (hpl : (backTo pos (starEach [e2] X.env)).any (·.1) = false) :
    EI T W X (.Tuple elts kk tpos) (.Call (.Name "zip" p) [e, e2] [] pos) (dZip ga) := by
  obtain ⟨t, pa, qa⟩ := ha
  refine ⟨_, RZ.pi_zipA hg hm pa hs hpl, fun w δ σ Q o s h => ?_⟩
  unfold dZip at h
  refine qa w δ σ _ o s (h.bind fun l w1 xs l1 o1 r1 h1 => ?_)
  split at h1
  · rename_i l m
    obtain ⟨x, y, e2, r2, r3⟩ := r1.two
    obtain ⟨a, xs', ea, sa, ra⟩ := r2.tupI
    obtain ⟨b, ys', eb, sb, rb⟩ := r3.tupI
    subst ea eb
    exact ⟨a, b, xs', ys', e2, .inr ⟨sa, sb, h1 w1 _ rfl (.refl _) o1 (src_zipT sa ra sb rb)⟩⟩
  · exact h1.elim
theorem src_enum {R : RC} {w0 : Wd} {n : Nat} (hn : n < w0.M.length) : SrcJ R w0 (.liveE n) (Ite R.K (w0.ρ n)) := fun i w le o => by
  show match ((seqOf w.M n).map fun l => l[i]?.map fun d => .tup [.int (i : Nat), d] : Option (Option D)) with
    | some (some d) => _
    | some none => _
    | none => True
  cases c : seqOf w.M n with
  | none => trivial
  | some l =>
    obtain ⟨_, xs, s1, rl, _⟩ := o.seq c
    rw [le.ρ n hn] at s1
    show match (some (l[i]?.map fun d => .tup [.int (i : Nat), d]) : Option (Option D)) with
      | some (some d) => _
      | some none => _
      | none => True
    cases c2 : l[i]? with
    | none => exact ⟨xs, s1, by rw [rl.length]; exact List.getElem?_eq_none_iff.mp c2⟩
    | some d =>
      obtain ⟨x, hx, rx⟩ := rl.get c2
      refine ⟨⟨xs, x, s1, hx⟩, fun y H' hy => ?_⟩
      obtain ⟨p, x', ev, hp, eH, h1⟩ := hy
      have e2 := h1 xs s1
      rw [hx] at e2
      cases e2
      obtain ⟨o', l'⟩ := o.beside (u := .tup [.int (i : Nat), x]) hp
      refine ⟨⟨w.ρ, w.M, upd w.H p (.tup [.int (i : Nat), x]), w.cp⟩, eH.symm, rfl, l', o', ?_⟩
      unfold RelD
      exact ⟨p, [.int (i : Nat), x], ev, .inl (.inl upd_same), .cons .mkInt (.cons (RelD.mono l' _ _ rx) .nil)⟩
theorem src_enT {R : RC} {w0 : Wd} {a : Addr} {l : List D} {xs : List V} (s : SqT R.K w0.H a xs) (r : RelL R w0 l xs) : SrcJ R w0 (.items (enumD 0 l)) (ItT R.K a) := fun i w le o => by
  have s' := le.fr.sqT s
  have r' := RelL.mono le _ _ r
  show match (some (enumD 0 l)[i]? : Option (Option D)) with
    | some (some d) => _
    | some none => _
    | none => True
  rw [enumD_get, Nat.zero_add]
  cases c : l[i]? with
  | none => exact ⟨xs, s', by rw [r'.length]; exact List.getElem?_eq_none_iff.mp c⟩
  | some d =>
    obtain ⟨x, hx, rx⟩ := r'.get c
    refine ⟨⟨xs, x, s', hx⟩, fun v H' hv => ?_⟩
    obtain ⟨p, x', ev, hp, eH, h1⟩ := hv
    have e1 := h1 xs s'
    rw [hx] at e1
    cases e1
    obtain ⟨o', l'⟩ := o.beside (u := .tup [.int (i : Nat), x]) hp
    refine ⟨⟨w.ρ, w.M, upd w.H p (.tup [.int (i : Nat), x]), w.cp⟩, eH.symm, rfl, l', o', ?_⟩
    unfold RelD
    exact ⟨p, [.int (i : Nat), x], ev, .inl (.inl upd_same), .cons .mkInt (RelL.mono l' _ _ (.cons rx .nil))⟩
theorem EI.enumL {ga : EF (List D)} {elts : List Expr} {kk : Nat} {tpos : Pos} (hg : Gl X "enumerate") (hm : X.mg "enumerate" = none) (ha : EA T W X [e] ga) (hs : starEach [e] X.env = [(false, eval e X.env)]) :
    EI T W X (.Tuple elts kk tpos) (.Call (.Name "enumerate" p) [e] [] pos) (dEnumL ga) := by
  obtain ⟨t, pa, qa⟩ := ha
  refine ⟨_, pi_enA hg hm pa hs, fun w δ σ Q o s h => ?_⟩
  unfold dEnumL at h
  refine qa w δ σ _ o s (h.bind fun l w1 xs l1 o1 r1 h1 => ?_)
  split at h1
  · rename_i n
    obtain ⟨x, e2, r2⟩ := r1.one
    obtain ⟨hn, ev⟩ := r2.ref
    subst ev
    split at h1
    · rename_i hs'
      obtain ⟨l, hl⟩ := Option.isSome_iff_exists.mp hs'
      obtain ⟨_, xs', s1, _, _⟩ := o1.seq hl
      exact ⟨_, xs', e2, .inr ⟨s1, h1 w1 _ rfl (.refl _) o1 (src_enum hn)⟩⟩
    · exact h1.elim
  · rename_i l
    obtain ⟨x, e2, r2⟩ := r1.one
    obtain ⟨a, xs', ea, sa, ra⟩ := r2.tupI
    subst ea
    exact ⟨a, xs', e2, .inl ⟨sa, h1 w1 _ rfl (.refl _) o1 (src_enT sa ra)⟩⟩
  · exact h1.elim
end
/-! ### for -/
def forF (s : Src) (g : GF D) (body : DS) : Nat → Nat → DS
  | 0, _ => fun _ _ => .bad
  | k + 1, i => fun δ M => match s.item M i with
    | none => .bad
    | some none => .nx δ M
    | some (some d) => onG (g d δ M) fun δ1 M1 => match body δ1 M1 with
      | .nx δ2 M2 => forF s g body k (i + 1) δ2 M2
      | .ct δ2 M2 => forF s g body k (i + 1) δ2 M2
      | .bk δ2 M2 => .nx δ2 M2
      | r => r
def forL (g : GF D) (body : DS) : List D → DS
  | [] => fun δ M => .nx δ M
  | d :: l => fun δ M => onG (g d δ M) fun δ1 M1 => match body δ1 M1 with
      | .nx δ2 M2 => forL g body l δ2 M2
      | .ct δ2 M2 => forL g body l δ2 M2
      | .bk δ2 M2 => .nx δ2 M2
      | r => r
theorem forF_items (l : List D) (g : GF D) (body : DS) : ∀ (k i : Nat), l.length - i < k → ∀ δ M, forF (.items l) g body k i δ M = forL g body (l.drop i) δ M
  | 0, _, h => by omega
  | k + 1, i, h => fun δ M => by
    unfold forF
    show (match (some l[i]? : Option (Option D)) with
      | none => ResS.bad
      | some none => _
      | some (some d) => _) = _
    cases c : l[i]? with
    | none =>
      rw [List.drop_eq_nil_of_le (List.getElem?_eq_none_iff.mp c)]
      rfl
    | some d =>
      obtain ⟨hi, e⟩ := List.getElem?_eq_some_iff.mp c
      rw [List.drop_eq_getElem_cons hi, e]
      unfold forL
      dsimp only
      cases g d δ M with
      | none => rfl
      | some p =>
        dsimp only [onG]
        cases body p.1 p.2 with
        | nx δ2 M2 => exact forF_items l g body k (i + 1) (by omega) δ2 M2
        | ct δ2 M2 => exact forF_items l g body k (i + 1) (by omega) δ2 M2
        | _ => rfl
def loopS (g : GF D) (body : DS) (s : Src) : DS := match s with
  | .items l => forL g body l
  | .live n => fun δ M => forF (.live n) g body (Src.size M (.live n) + 1) 0 δ M
  | .liveE n => fun δ M => forF (.liveE n) g body (Src.size M (.liveE n) + 1) 0 δ M
theorem loopS_eq (g : GF D) (body : DS) (s : Src) (δ : DEnv) (M : Mem) : loopS g body s δ M = forF s g body (s.size M + 1) 0 δ M := by
  cases s with
  | items l => rw [forF_items l g body _ 0 (by show l.length - 0 < l.length + 1; omega)]; rfl
  | live n => rfl
  | liveE n => rfl
def sFor (src : EF Src) (g : GF D) (body : DS) : DS := fun δ M => onV (src δ M) δ fun s M1 => loopS g body s δ M1
section
variable {T : TB} {W : WX} {X : Cx} {tg iter : Expr} {body : List Stmt} {src : EF Src} {vs : List Nat} {g : GF D} {b : DS} {pos : Pos}
theorem ES.for (hp : PassesOwn (model X.prog X.w) X.A X.env X.xe) (hc : X.calm = true) (hi : EI T W X tg iter src) (hg : EG T X tg vs g) (hb : ESs T W X body b)
    (hs : ∀ x, foldedSetIterable iter X.env x = pure x) : ES T W X (.For tg iter body [] pos) (sFor src g b) := by
  obtain ⟨wi, pi, qi⟩ := hi
  obtain ⟨tg', pg, qg⟩ := hg
  obtain ⟨tb, pb, qb⟩ := hb
  refine ⟨_, ps_for hp hc pi pg pb hs, fun w δ σ E o s h => qi w δ σ _ o s (onV_post s h fun sc w1 J l1 o1 sj k => ?_)⟩
  rw [loopS_eq] at k
  refine ⟨fun i m σ H => ∃ w δ, w.H = H ∧ w1.le w ∧ w.Ok (rc T X) ∧ SRel (rc T X) w δ σ ∧ PostS (rc T X) W w E (forF sc g b m i δ w.M), ⟨_, w1, δ, rfl, .refl _, o1, s.mono l1, k⟩, ?_⟩
  rintro i m σ2 H2 ⟨w2, δ2, e2, l2, o2, s2, k2⟩
  subst e2
  cases m with
  | zero => exact k2.elim
  | succ m =>
    have j := sj i w2 l2 o2
    unfold forF at k2
    cases c : sc.item w2.M i with
    | none => rw [c] at k2; exact k2.elim
    | some od =>
      rw [c] at k2 j
      cases od with
      | none => exact .inl ⟨j, k2 w2 σ2 rfl (.refl _) o2 s2⟩
      | some d =>
        refine .inr ⟨j.1, fun σ' H' => ∃ w δ, w.H = H' ∧ w1.le w ∧ w.Ok (rc T X) ∧ SRel (rc T X) w δ σ' ∧ PostS (rc T X) W w E (forF sc g b m (i + 1) δ w.M), fun σ' H' n => ⟨m, Nat.lt_succ_self _, n⟩, fun x H' hy => ?_⟩
        obtain ⟨w3, e3, m3, l3, o3, r3⟩ := j.2 x H' hy
        subst e3
        refine qg w3 δ2 σ2 d x _ o3 (s2.mono l3) r3 ?_
        have k3 : PostS (rc T X) W w2 E (onG (g d δ2 w2.M) fun δ1 M1 => match b δ1 M1 with
          | .nx δ2 M2 => forF sc g b m (i + 1) δ2 M2
          | .ct δ2 M2 => forF sc g b m (i + 1) δ2 M2
          | .bk δ2 M2 => .nx δ2 M2
          | r => r) := k2
        rw [m3]
        cases c2 : g d δ2 w2.M with
        | none => rw [c2] at k3; exact k3.elim
        | some q =>
          rw [c2] at k3
          intro w4 σ4 e4 l4 o4 s4 _
          refine qb w4 q.1 σ4 _ o4 s4 ?_
          rw [e4]
          have k4 : PostS (rc T X) W w4 E (match b q.1 q.2 with
            | .nx δ2 M2 => forF sc g b m (i + 1) δ2 M2
            | .ct δ2 M2 => forF sc g b m (i + 1) δ2 M2
            | .bk δ2 M2 => .nx δ2 M2
            | r => r) := PostS.at (l3.trans l4) k3
          cases c3 : b q.1 q.2 with
          | nx δ5 M5 => rw [c3] at k4; exact fun w5 σ5 e5 l5 o5 s5 => ⟨w5, δ5, rfl, ((l2.trans l3).trans l4).trans l5, o5, s5, by subst e5; exact PostS.at l5 k4⟩
          | ct δ5 M5 => rw [c3] at k4; exact fun w5 σ5 e5 l5 o5 s5 => ⟨w5, δ5, rfl, ((l2.trans l3).trans l4).trans l5, o5, s5, by subst e5; exact PostS.at l5 k4⟩
          | bk δ5 M5 => rw [c3] at k4; exact k4
          | rt d M => rw [c3] at k4; exact k4
          | exc x d M => rw [c3] at k4; exact k4
          | bad => rw [c3] at k4; exact k4
end
/-! ### while -/
def whF (c : EF Bool) (body : DS) : Nat → DS
  | 0 => fun _ _ => .bad
  | n + 1 => fun δ M => onV (c δ M) δ fun b M1 => if b = true then (match body δ M1 with
      | .nx δ2 M2 => whF c body n δ2 M2
      | .ct δ2 M2 => whF c body n δ2 M2
      | .bk δ2 M2 => .nx δ2 M2
      | r => r) else .nx δ M1
open Classical in
noncomputable def sWh (c : EF Bool) (body : DS) : DS := fun δ M => if h : ∃ n, whF c body n δ M ≠ .bad then whF c body (Classical.choose h) δ M else .bad
theorem whF_more {c : EF Bool} {body : DS} : ∀ (n m : Nat) (δ : DEnv) (M : Mem), n ≤ m → whF c body n δ M ≠ .bad → whF c body m δ M = whF c body n δ M
  | 0, _, _, _, _, h => absurd rfl h
  | n + 1, 0, _, _, l, _ => by omega
  | n + 1, m + 1, δ, M, l, h => by
    unfold whF at h ⊢
    cases c1 : c δ M with
    | bad => rfl
    | exc x M1 => rfl
    | ok b M1 =>
      rw [c1] at h
      show (if b = true then _ else _) = (if b = true then _ else _)
      have h : (if b = true then (match body δ M1 with
        | .nx δ2 M2 => whF c body n δ2 M2
        | .ct δ2 M2 => whF c body n δ2 M2
        | .bk δ2 M2 => .nx δ2 M2
        | r => r) else .nx δ M1) ≠ ResS.bad := h
      by_cases hb : b = true
      · rw [if_pos hb] at h ⊢
        rw [if_pos hb]
        cases c2 : body δ M1 with
        | nx δ2 M2 => rw [c2] at h; exact whF_more n m δ2 M2 (by omega) h
        | ct δ2 M2 => rw [c2] at h; exact whF_more n m δ2 M2 (by omega) h
        | bk δ2 M2 => rfl
        | rt d M2 => rfl
        | exc x d M2 => rfl
        | bad => rfl
      · rw [if_neg hb, if_neg hb]
theorem sWh_of {c : EF Bool} {body : DS} {δ : DEnv} {M : Mem} {r : ResS} (n : Nat) (h : whF c body n δ M = r) (hr : r ≠ .bad) : sWh c body δ M = r := by
  unfold sWh
  have ex : ∃ n, whF c body n δ M ≠ .bad := ⟨n, by rw [h]; exact hr⟩
  rw [dif_pos ex]
  have hc := Classical.choose_spec ex
  rcases Nat.le_total n (Classical.choose ex) with l | l
  · rw [whF_more n _ δ M l (by rw [h]; exact hr), h]
  · rw [← whF_more (Classical.choose ex) n δ M l hc, h]
theorem sWh_fuel {c : EF Bool} {body : DS} {δ : DEnv} {M : Mem} : ∃ n, sWh c body δ M = whF c body n δ M := by
  unfold sWh
  split
  · exact ⟨_, rfl⟩
  · exact ⟨0, rfl⟩
section
variable {T : TB} {W : WX} {X : Cx} {c : Expr} {body : List Stmt} {c0 : EF Bool} {b : DS} {pos : Pos}
theorem ES.while (hp : PassesOwn (model X.prog X.w) X.A X.env X.xe) (hc : ET T W X c c0) (hb : ESs T W X body b) : ES T W X (.While c body [] pos) (sWh c0 b) := by
  obtain ⟨tc, pc, qc⟩ := hc
  obtain ⟨tb, pb, qb⟩ := hb
  refine ⟨_, ps_while hp pc pb, fun w δ σ E o s h => ?_⟩
  refine ⟨fun m σ H => ∃ w δ, w.H = H ∧ w.Ok (rc T X) ∧ SRel (rc T X) w δ σ ∧ PostS (rc T X) W w E (whF c0 b m δ w.M), ?start, ?_⟩
  · obtain ⟨n, e⟩ := sWh_fuel (c := c0) (body := b) (δ := δ) (M := w.M)
    exact ⟨n, w, δ, rfl, o, s, by rw [← e]; exact h⟩
  rintro m σ2 H2 ⟨w2, δ2, e2, o2, s2, k2⟩
  subst e2
  cases m with
  | zero => exact k2.elim
  | succ m =>
    unfold whF at k2
    refine qc w2 δ2 σ2 _ o2 s2 (onV_post s2 k2 fun d w3 d' l3 o3 r3 k3 => ?_)
    cases (show d = d' from r3)
    cases d with
    | false => rw [if_neg Bool.false_ne_true]; exact k3 w3 σ2 rfl (.refl _) o3 (s2.mono l3)
    | true =>
      rw [if_pos rfl]
      refine ⟨fun σ' H' => ∃ w δ, w.H = H' ∧ w.Ok (rc T X) ∧ SRel (rc T X) w δ σ' ∧ PostS (rc T X) W w E (whF c0 b m δ w.M), fun σ' H' n => ⟨m, Nat.lt_succ_self _, n⟩, ?_⟩
      refine qb w3 δ2 σ2 _ o3 (s2.mono l3) ?_
      rw [if_pos rfl] at k3
      cases c3 : b δ2 w3.M with
      | nx δ5 M5 => rw [c3] at k3; exact fun w5 σ5 e5 l5 o5 s5 => ⟨w5, δ5, rfl, o5, s5, by subst e5; exact PostS.at l5 k3⟩
      | ct δ5 M5 => rw [c3] at k3; exact fun w5 σ5 e5 l5 o5 s5 => ⟨w5, δ5, rfl, o5, s5, by subst e5; exact PostS.at l5 k3⟩
      | bk δ5 M5 => rw [c3] at k3; exact k3
      | rt d M => rw [c3] at k3; exact k3
      | exc x d M => rw [c3] at k3; exact k3
      | bad => rw [c3] at k3; exact k3
end
end Pd
namespace Pd
open PySem PySem.Spec PyProof.Rows L2
abbrev WF : WX := fun _ _ _ _ => False
/-! ### list comprehensions -/
def compStep (n : Nat) (g : GF D) (tt : EF Bool) (te : EF D) (δ : DEnv) (d : D) (M : Mem) : Option Mem := match g d δ M with
  | none => none
  | some p => match tt p.1 p.2 with
    | .ok b M2 => if b = true then (match te p.1 M2 with
        | .ok y M3 => match lstOf M3 n with
          | some acc => if acc.length < sizeLine then some (M3.set n (.lst (acc ++ [y]))) else none
          | none => none
        | _ => none) else some M2
    | _ => none
def compF (n : Nat) (g : GF D) (tt : EF Bool) (te : EF D) (δ : DEnv) (s : Src) : Nat → Nat → Mem → Option Mem
  | 0, _, _ => none
  | k + 1, i, M => match s.item M i with
    | none => none
    | some none => some M
    | some (some d) => (compStep n g tt te δ d M).bind fun M' => compF n g tt te δ s k (i + 1) M'
def compL (n : Nat) (g : GF D) (tt : EF Bool) (te : EF D) (δ : DEnv) : List D → Mem → Option Mem
  | [], M => some M
  | d :: l, M => (compStep n g tt te δ d M).bind fun M' => compL n g tt te δ l M'
theorem compF_items {n : Nat} {g : GF D} {tt : EF Bool} {te : EF D} {δ : DEnv} (l : List D) : ∀ (k i : Nat), l.length - i < k → ∀ M, compF n g tt te δ (.items l) k i M = compL n g tt te δ (l.drop i) M
  | 0, _, h => by omega
  | k + 1, i, h => fun M => by
    unfold compF
    show (match (some l[i]? : Option (Option D)) with
      | none => (none : Option Mem)
      | some none => _
      | some (some d) => _) = _
    cases c : l[i]? with
    | none =>
      rw [List.drop_eq_nil_of_le (List.getElem?_eq_none_iff.mp c)]
      rfl
    | some d =>
      obtain ⟨hi, e⟩ := List.getElem?_eq_some_iff.mp c
      rw [List.drop_eq_getElem_cons hi, e]
      unfold compL
      dsimp only
      cases compStep n g tt te δ d M with
      | none => rfl
      | some M' => exact compF_items l k (i + 1) (by omega) M'
def compS (n : Nat) (g : GF D) (tt : EF Bool) (te : EF D) (δ : DEnv) (s : Src) (M : Mem) : Option Mem := match s with
  | .items l => compL n g tt te δ l M
  | .live k => compF n g tt te δ (.live k) (Src.size M (.live k) + 1) 0 M
  | .liveE k => compF n g tt te δ (.liveE k) (Src.size M (.liveE k) + 1) 0 M
theorem compS_eq (n : Nat) (g : GF D) (tt : EF Bool) (te : EF D) (δ : DEnv) (s : Src) (M : Mem) : compS n g tt te δ s M = compF n g tt te δ s (s.size M + 1) 0 M := by
  cases s with
  | items l => rw [compF_items l _ 0 (by show l.length - 0 < l.length + 1; omega)]; rfl
  | live n => rfl
  | liveE n => rfl
def dLc (own : List Nat) (src : EF Src) (g : GF D) (tt : EF Bool) (te : EF D) : EF D := fun δ M => (src δ M).bind fun s M1 => match compS M1.length g tt te (wipeD δ own) s (M1 ++ [.lst []]) with
  | some M' => .ok (.ref M1.length) M'
  | none => .bad
def tTrue : EF Bool := fun _ M => .ok true M
def tGc (R : RC) (vs : List Nat) (g : GF D) : TG := fun v σ H Q => ∃ w δ d, w.H = H ∧ w.Ok R ∧ SRel R w δ σ ∧ RelD R w d v ∧ PostG R w vs σ Q (g d δ w.M)
section
variable {T : TB} {W : WX} {X : Cx}
theorem EG.pg {tg : Expr} {vs : List Nat} {g : GF D} (h : EG T X tg vs g) : PG X tg (tGc (rc T X) vs g) := by
  obtain ⟨t, p, q⟩ := h
  refine ⟨fun pins s σ H v u Q I r ⟨w, δ, d, e1, o, sr, rd, k⟩ => ?_⟩
  subst e1
  exact p.run pins s σ w.H v u Q I r (q w δ σ d v Q o sr rd k)
/-- a clause's tests -/
def ETs (T : TB) (W : WX) (X : Cx) (ifs : List Expr) (f : EF Bool) : Prop := PTs X ifs (tE (rc T X) W relB f)
theorem ETs.nil : ETs T W X [] tTrue := ⟨fun pins s σ H Q I ⟨w, δ, e1, o, sr, k⟩ => by
  subst e1
  exact pts_nil.run pins s σ w.H Q I (k w true rfl (.refl _) o rfl)⟩
theorem ETs.one {c : Expr} {f : EF Bool} (h : ET T W X c f) : ETs T W X [c] f := pts_one h.pt
theorem wipe_wipe (σ : St) : ∀ vs : List Nat, L2.wipe (L2.wipe σ vs) vs = L2.wipe σ vs
  | [] => rfl
  | v :: vs => by
    have h : ∀ us : List Nat, L2.wipe (L2.wipe σ (v :: vs)) us = L2.wipe (L2.wipe σ us) (v :: vs) := by
      intro us
      induction us with
      | nil => rfl
      | cons a r ih =>
        show (L2.wipe (L2.wipe σ (v :: vs)) r).set a none = L2.wipe ((L2.wipe σ r).set a none) (v :: vs)
        rw [ih]
        have : ∀ (ks : List Nat) (τ : St), (L2.wipe τ ks).set a none = L2.wipe (τ.set a none) ks := by
          intro ks
          induction ks with
          | nil => intro τ; rfl
          | cons b q ih2 =>
            intro τ
            show ((L2.wipe τ q).set b none).set a none = (L2.wipe (τ.set a none) q).set b none
            rw [← ih2]
            by_cases e : a = b
            · subst e; rw [List.set_set]
            · rw [List.set_comm _ _ e]
        rw [this]
    have idem : ∀ (ks : List Nat), (∀ i ∈ ks, i ∈ v :: vs) → L2.wipe (L2.wipe σ (v :: vs)) ks = L2.wipe σ (v :: vs) := by
      have keep : ∀ (ks : List Nat) (i : Nat), i ∈ ks → (L2.wipe σ ks).set i none = L2.wipe σ ks := by
        intro ks
        induction ks with
        | nil => intro i h; cases h
        | cons a r ih =>
          intro i h
          show ((L2.wipe σ r).set a none).set i none = (L2.wipe σ r).set a none
          by_cases e : i = a
          · subst e; rw [List.set_set]
          · rw [List.set_comm _ _ (Ne.symm e), ih i ((List.mem_cons.mp h).resolve_left e)]
      intro ks
      induction ks with
      | nil => intro _; rfl
      | cons a r ih =>
        intro hs
        show (L2.wipe (L2.wipe σ (v :: vs)) r).set a none = _
        rw [ih fun i h => hs i (List.mem_cons_of_mem _ h)]
        exact keep _ a (hs a List.mem_cons_self)
    exact idem (v :: vs) fun _ h => h
theorem comp_core {R : RC} {own vs : List Nat} {src : EF Src} {wi : TI} {g : GF D} {tt : EF Bool} {te : EF D} (hv : ∀ i ∈ vs, i ∈ own)
    (qi : ∀ w δ σ Q, w.Ok R → SRel R w δ σ → Post R W w σ (fun w' s J => SrcJ R w' s J) Q (src δ w.M) → wi σ w.H Q)
    {w : Wd} {δ : DEnv} {σ : St} {Q : VK} (o : w.Ok R) (s : SRel R w δ σ) (h : Post R W w σ (RelD R) Q (dLc own src g tt te δ w.M)) :
    tLc wi (tGc R vs g) (tE R WF relB tt) (tE R WF (RelD R) te) own σ w.H Q := by
  refine qi w δ σ _ o s (h.bind fun sc w1 J l1 o1 sj k => fun Da hD => ?_)
  rw [compS_eq] at k
  obtain ⟨oP, lP, eP⟩ := o1.pushed hD (m := .lst []) (u := .lst []) (fun w' le => ⟨[], rfl, .nil⟩) (fun _ z => by cases z)
  have sP : ∀ w2, (w1.push Da (.lst []) (.lst [])).le w2 → w2.ρ w1.M.length = Da := fun w2 l2 => by
    rw [l2.ρ _ (by show w1.M.length < (w1.M ++ [_]).length; simp), eP]
  have szE : sc.size (w1.M ++ [.lst []]) = sc.size (w1.push Da (.lst []) (.lst [])).M := rfl
  generalize hf : compF w1.M.length g tt te (wipeD δ own) sc (sc.size (w1.M ++ [MO.lst []]) + 1) 0 (w1.M ++ [.lst []]) = r at k
  cases r with
  | none => exact k.elim
  | some Mf =>
    have fin : ∀ w', w'.M = Mf → w1.le w' → w'.Ok R → w'.ρ w1.M.length = Da → w1.M.length < w'.M.length → Q (.ref Da) w'.H := fun w' em le ok ed hl => k w' (.ref Da) em le ok (by unfold RelD; exact ⟨hl, by rw [ed]⟩)
    refine ⟨fun i m H => ∃ w, w.H = H ∧ (w1.push Da (.lst []) (.lst [])).le w ∧ w.Ok R ∧ compF w1.M.length g tt te (wipeD δ own) sc m i w.M = some Mf, ⟨_, _, rfl, .refl _, oP, hf⟩, ?_⟩
    rintro i m H ⟨w2, e2, l2, o2, k2⟩
    subst e2
    have lw := lP.trans l2
    have hlen : w1.M.length < w2.M.length := Nat.lt_of_lt_of_le (by show w1.M.length < (w1.M ++ [_]).length; simp) l2.len
    cases m with
    | zero => unfold compF at k2; cases k2
    | succ m =>
      have j := sj i w2 lw o2
      unfold compF at k2
      cases c : sc.item w2.M i with
      | none => rw [c] at k2; cases k2
      | some od =>
        rw [c] at k2 j
        cases od with
        | none => cases k2; exact .inl ⟨j, fin w2 rfl lw o2 (sP w2 l2) hlen⟩
        | some d =>
          refine .inr ⟨j.1, fun H' => ∃ w, w.H = H' ∧ (w1.push Da (.lst []) (.lst [])).le w ∧ w.Ok R ∧ compF w1.M.length g tt te (wipeD δ own) sc m (i + 1) w.M = some Mf, fun H' n => ⟨m, Nat.lt_succ_self _, n⟩, fun x H' hy => ?_⟩
          obtain ⟨w3, e3, m3, l3, o3, r3⟩ := j.2 x H' hy
          subst e3
          have s3 : SRel R w3 (wipeD δ own) (L2.wipe σ own) := (s.mono ((l1.trans lw).trans l3)).wipe own
          refine ⟨w3, wipeD δ own, d, rfl, o3, s3, r3, ?_⟩
          have k3 : (compStep w1.M.length g tt te (wipeD δ own) d w2.M).bind (fun M' => compF w1.M.length g tt te (wipeD δ own) sc m (i + 1) M') = some Mf := k2
          unfold compStep at k3
          rw [m3]
          cases c2 : g d (wipeD δ own) w2.M with
          | none => rw [c2] at k3; cases k3
          | some p =>
            rw [c2] at k3
            dsimp only at k3
            intro w4 σ4 e4 l4 o4 s4 u4
            refine ⟨by rw [u4 own hv, wipe_wipe], w4, p.1, rfl, o4, s4, ?_⟩
            rw [e4]
            cases c3 : tt p.1 p.2 with
            | bad => rw [c3] at k3; cases k3
            | exc x M => rw [c3] at k3; cases k3
            | ok b M5 =>
              rw [c3] at k3
              dsimp only at k3
              intro w5 b' e5 l5 o5 eb
              cases (show b = b' from eb)
              subst e5
              cases b with
              | false =>
                rw [if_neg Bool.false_ne_true] at k3 ⊢
                exact ⟨w5, rfl, ((l2.trans l3).trans l4).trans l5, o5, k3⟩
              | true =>
                rw [if_pos rfl] at k3 ⊢
                refine ⟨w5, p.1, rfl, o5, s4.mono l5, ?_⟩
                cases c6 : te p.1 w5.M with
                | bad => rw [c6] at k3; cases k3
                | exc x M => rw [c6] at k3; cases k3
                | ok y M6 =>
                  rw [c6] at k3
                  dsimp only at k3
                  intro w6 v6 e6 l6 o6 r6
                  subst e6
                  cases c7 : lstOf w6.M w1.M.length with
                  | none => rw [c7] at k3; cases k3
                  | some acc =>
                    rw [c7] at k3
                    dsimp only at k3
                    split at k3
                    · rename_i hz
                      have lt := (((l2.trans l3).trans l4).trans l5).trans l6
                      obtain ⟨h7, hM7, xs7, hH7, r7⟩ := o6.lst c7
                      rw [sP w6 lt] at hH7
                      obtain ⟨o8, l8⟩ := o6.putted hM7 (u₀ := .lst xs7) (by rw [sP w6 lt]; exact hH7) trivial (m := .lst (acc ++ [y])) (u := .lst (xs7 ++ [v6])) (fun w' le => ⟨_, rfl, (RelL.mono le _ _ r7).app (.cons (RelD.mono le _ _ r6) .nil)⟩) (fun _ z => by cases z)
                      refine ⟨xs7, hH7, by rw [r7.length]; exact hz, w6.put w1.M.length (.lst (acc ++ [y])) (.lst (xs7 ++ [v6])), ?_, lt.trans l8, o8, k3⟩
                      show upd w6.H (w6.ρ w1.M.length) _ = _
                      rw [sP w6 lt]
                    · cases k3
variable {elt tg iter : Expr} {ifs : List Expr} {scope : Scope} {own : List (Str × Nat)} {pos : Pos} {src : EF Src} {vs : List Nat} {g : GF D} {tt : EF Bool} {te : EF D}
theorem EV.lc (hc : X.calm = true) (hN : X.N.Nodup) (hi : EI T W X tg iter src) (ok : BlkOk X.N X.env.scope scope own) (hv : ∀ i ∈ vs, i ∈ own.map (·.2))
    (hg : ∀ (s : Shared) (H : Hp) (C : Addr) (cl : List (Str × Addr)) (fp : List Addr), EG T (X.blk s H scope (compEnvC scope cl C X.env) fp) tg vs g)
    (ht : ∀ (s : Shared) (H : Hp) (C : Addr) (cl : List (Str × Addr)) (fp : List Addr), ETs T WF (X.blk s H scope (compEnvC scope cl C X.env) fp) ifs tt)
    (he : ∀ (s : Shared) (H : Hp) (C : Addr) (cl : List (Str × Addr)) (fp : List Addr), EV T WF (X.blk s H scope (compEnvC scope cl C X.env) fp) elt te) (hs : ∀ x, foldedSetIterable iter X.env x = pure x) :
    EV T W X (.ListComp elt [⟨tg, iter, ifs, 0⟩] scope pos) (dLc (own.map (·.2)) src g tt te) := by
  obtain ⟨wi, pi, qi⟩ := hi
  exact ⟨_, pe_lc (g := tGc (rc T X) vs g) (tt := tE (rc T X) WF relB tt) (te := tE (rc T X) WF (RelD (rc T X)) te) hc hN pi ok (fun s H C cl fp => (hg s H C cl fp).pg) (fun s H C cl fp => ht s H C cl fp) (fun s H C cl fp => (he s H C cl fp).pe) hs, fun w δ σ Q o s h => comp_core hv qi o s h⟩
theorem ES.setLc {i : Nat} {y : Str} {py spos : Pos} (hc : X.calm = true) (hN : X.N.Nodup) (hy : X.N[i]? = some y) (hyl : X.env.scope.names.lookup y = some .local)
    (hsw : swapsWith (.ListComp elt [⟨tg, iter, ifs, 0⟩] scope pos) (some (.Name y py)) spos.line X.env = pure true) (hi : EI T W X tg iter src) (ok : BlkOk X.N X.env.scope scope own) (hv : ∀ i ∈ vs, i ∈ own.map (·.2))
    (hg : ∀ (s : Shared) (H : Hp) (C : Addr) (cl : List (Str × Addr)) (fp : List Addr), EG T (X.blk s H scope (compEnvC scope cl C X.env) fp) tg vs g)
    (ht : ∀ (s : Shared) (H : Hp) (C : Addr) (cl : List (Str × Addr)) (fp : List Addr), ETs T WF (X.blk s H scope (compEnvC scope cl C X.env) fp) ifs tt)
    (he : ∀ (s : Shared) (H : Hp) (C : Addr) (cl : List (Str × Addr)) (fp : List Addr), EV T WF (X.blk s H scope (compEnvC scope cl C X.env) fp) elt te) (hs : ∀ x, foldedSetIterable iter X.env x = pure x) :
    ES T W X (.Assign [.Name y py] (.ListComp elt [⟨tg, iter, ifs, 0⟩] scope pos) spos) (sAsg (dLc (own.map (·.2)) src g tt te) (gNm i)) := by
  obtain ⟨wi, pi, qi⟩ := hi
  refine ⟨_, ps_setLc (g := tGc (rc T X) vs g) (tt := tE (rc T X) WF relB tt) (te := tE (rc T X) WF (RelD (rc T X)) te) hc hN hy hyl hsw pi ok (fun s H C cl fp => (hg s H C cl fp).pg) (fun s H C cl fp => ht s H C cl fp) (fun s H C cl fp => (he s H C cl fp).pe) hs, fun w δ σ E o s h => ?_⟩
  refine comp_core hv qi o s (onV_post s h fun d w' v l o' r k => ?_)
  exact k w' _ rfl (.refl _) o' ((s.mono l).set r i)
end
/-! ### methods of built-ins -/
def dMt (chk : D → Mem → Bool) (op : D → List D → Mem → OV) (f : EF D) (g : EF (List D)) : EF D := fun δ M => (f δ M).bind fun a M1 => if chk a M1 = true then (g δ M1).bind fun l M2 => ofV (op a l M2) else .bad
def MtOk (T : TB) (X : Cx) (op : D → List D → Mem → OV) (r : V → List V → Hp → VK → Prop) : Prop :=
  ∀ w a l x xs Q, w.Ok (rc T X) → RelD (rc T X) w a x → RelL (rc T X) w l xs → PostV (rc T X) w Q (op a l w.M) → r x xs w.H Q
def isLst (d : D) (M : Mem) : Bool := match d with
  | .ref n => (seqOf M n).isSome
  | _ => false
def isStr (d : D) (_ : Mem) : Bool := match d with
  | .str _ => true
  | _ => false
section
variable {T : TB} {W : WX} {X : Cx} {o e : Expr} {es : List Expr} {name : Str} {apos cpos : Pos} {f : EF D} {g : EF (List D)}
theorem isLst_ok {R : RC} {w : Wd} (ok : w.Ok R) {d : D} {v : V} (h : isLst d w.M = true) (r : RelD R w d v) : tyV R.K "list" v w.H := by
  cases d with
  | ref n =>
    obtain ⟨l, hl⟩ := Option.isSome_iff_exists.mp (show (seqOf w.M n).isSome = true from h)
    obtain ⟨_, e⟩ := r.ref
    subst e
    obtain ⟨_, xs, s1, _, _⟩ := ok.seq hl
    exact .inl ⟨rfl, xs, s1⟩
  | _ => cases h
theorem isStr_ok {R : RC} {w : Wd} {d : D} {v : V} (h : isStr d w.M = true) (r : RelD R w d v) : tyV R.K "str" v w.H := by
  cases d with
  | str n => unfold RelD at r; subst r; rfl
  | _ => cases h
theorem EV.mt {Ty id : String} {r : V → List V → Hp → VK → Prop} {chk : D → Mem → Bool} {op : D → List D → Mem → OV} (hT : ∀ w d v, w.Ok (rc T X) → chk d w.M = true → RelD (rc T X) w d v → tyV X.K Ty v w.H)
    (pa : PlainAttrs Ty) (slot : Slot Ty name id) (hty : typeOf (.builtin id) = pure (.type "method_descriptor")) (hm : MtR X id r) (hk : MtOk T X op r) (ho : EV T W X o f) (ha : EA T W X (e :: es) g)
    (hbase : attributeBase o name X.env (eval o X.env) = eval o X.env)
    (hfew : ((backTo cpos (starEach (e :: es) X.env)).all (fun x => !x.1) && (backToKw cpos (keywordEach [] X.env)).all (fun x => x.1.isSome)
      && decide ((e :: es).length + ([] : List Keyword).length + (if ([] : List Keyword).isEmpty then 0 else 1) < 30)) = true)
    (hline : (apos.endLine == cpos.line) = true) (hs : starEach (e :: es) X.env = (false, eval e X.env) :: starEach es X.env) (hplain : (backTo cpos (starEach es X.env)).any (·.1) = false) :
    EV T W X (.Call (.Attribute o name apos) (e :: es) [] cpos) (dMt chk op f g) := by
  obtain ⟨ta, pa', qa⟩ := ho
  obtain ⟨tb, pb, qb⟩ := ha
  refine ⟨_, pe_bm pa slot hty hm pa' pb hbase hfew hline hs hplain, fun w δ σ Q ok s h => ?_⟩
  refine qa w δ σ _ ok s (h.bind fun d1 w1 v1 l1 o1 r1 h1 => ?_)
  split at h1
  · rename_i hc
    refine ⟨hT w1 d1 v1 o1 hc r1, qb w1 δ σ _ o1 (s.mono l1) (h1.bind fun d2 w2 v2 l2 o2 r2 h2 => ?_)⟩
    exact hk w2 d1 d2 v1 v2 Q o2 (RelD.mono l2 _ _ r1) r2 (post_ofV h2)
  · exact h1.elim
theorem EV.mt0 {Ty id : String} {r : V → List V → Hp → VK → Prop} {chk : D → Mem → Bool} {op : D → List D → Mem → OV} (hT : ∀ w d v, w.Ok (rc T X) → chk d w.M = true → RelD (rc T X) w d v → tyV X.K Ty v w.H)
    (pa : PlainAttrs Ty) (slot : Slot Ty name id) (hty : typeOf (.builtin id) = pure (.type "method_descriptor")) (hm : MtR X id r) (hk : MtOk T X op r) (ho : EV T W X o f)
    (hbase : attributeBase o name X.env (eval o X.env) = eval o X.env) (hline : (apos.endLine == cpos.line) = true) :
    EV T W X (.Call (.Attribute o name apos) [] [] cpos) (dMt chk op f aNil) := by
  obtain ⟨ta, pa', qa⟩ := ho
  refine ⟨_, pe_bm0 pa slot hty hm pa' hbase hline, fun w δ σ Q ok s h => ?_⟩
  refine qa w δ σ _ ok s (h.bind fun d1 w1 v1 l1 o1 r1 h1 => ?_)
  split at h1
  · rename_i hc
    exact ⟨hT w1 d1 v1 o1 hc r1, hk w1 d1 [] v1 [] Q o1 r1 .nil (post_ofV h1)⟩
  · exact h1.elim
def oApp (a : D) (l : List D) (M : Mem) : OV := match a, l with
  | .ref n, [d] => match lstOf M n with
    | some xs => if xs.length < sizeLine then some (.non, M.set n (.lst (xs ++ [d]))) else none
    | none => none
  | _, _ => none
theorem PostV.put {R : RC} {w : Wd} {Q : VK} {n : Nat} {l l' : List D} {xs xs' : List V} {d : D} {v : V} (h : PostV R w Q (some (d, w.M.set n (.lst l')))) (o : w.Ok R) (c : lstOf w.M n = some l) (r : RelL R w l' xs') (rd : RelD R w d v) :
    Q v (upd w.H (w.ρ n) (.lst xs')) := by
  obtain ⟨hn, hM, ys, hH, _⟩ := o.lst c
  obtain ⟨o8, l8⟩ := o.putted hM hH trivial (m := .lst l') (u := .lst xs') (fun w' le => ⟨_, rfl, RelL.mono le _ _ r⟩) (fun _ z => by cases z)
  exact h (w.put n (.lst l') (.lst xs')) v rfl l8 o8 (RelD.mono l8 _ _ rd)
theorem mk_app : MtOk T X oApp rAppend := fun w a l x xs Q o ra rl h => by
  unfold oApp at h
  split at h
  · rename_i n d
    obtain ⟨y, e, ry⟩ := rl.one
    obtain ⟨_, e1⟩ := ra.ref
    split at h
    · rename_i m c
      split at h
      · rename_i hz
        obtain ⟨hn, hM, ys, hH, rm⟩ := o.lst c
        exact ⟨_, ys, y, e1, e, hH, by rw [rm.length]; exact hz, PostV.put (l := m) (xs := ys) h o c (rm.app (.cons ry .nil)) .mkNon⟩
      · exact h.elim
    · exact h.elim
  · exact h.elim
end
/-! ### own functions -/
/-- what a def that is the function φ promises (n parameters) -/
def spOf (R : RC) (n : Nat) (φ : List D → Mem → Res D) : Sp := fun vs H Q E => ∃ w l, w.H = H ∧ w.Ok R ∧ RelL R w l vs ∧ l.length = n ∧ Post R (fun c d _ H' => E c d H') w [] (RelD R) Q (φ l w.M)
def dCall (φ : List D → Mem → Res D) (n : Nat) (g : EF (List D)) : EF D := fun δ M => (g δ M).bind fun l M1 => if l.length = n then φ l M1 else .bad
theorem Post.sig {α β : Type} {R : RC} {W W' : WX} {w : Wd} {σ σ' : St} {rel : Wd → α → β → Prop} {Q : β → Hp → Prop} {r : Res α} (h : Post R W w σ rel Q r) (hw : ∀ c d H, W c d σ H → W' c d σ' H) : Post R W' w σ' rel Q r := by
  cases r with
  | ok a M => exact h
  | exc x M => exact fun w' c d e l o q => hw _ _ _ (h w' c d e l o q)
  | bad => exact h
section
variable {T : TB} {W : WX} {X : Cx} {x : Str} {e : Expr} {es : List Expr} {p pos : Pos} {g : EF (List D)} {k n : Nat} {f : Addr} {fd : FuncData} {ps : List Str} {φ : List D → Mem → Res D}
theorem EV.call (F : FnOk X.prog X.w X.K X.mg X.base (L2N.CX X.prog X.w) k f fd ps (spOf (rc T X) n φ)) (hr : Room k X.A) (hg : Gl X x) (hm : X.mg x = some (.ref f)) (hk : PySem.W.keepIn X.K (.ref f) = true) (hb : Binds X.K fd ps [])
    (tk : L2N.Takes X W) (ha : EA T W X (e :: es) g) (hdb : (x == ("__debug__" : Str)) = false) (he : starEach (e :: es) X.env = (false, eval e X.env) :: starEach es X.env) (hpl : (backTo pos (starEach es X.env)).any (·.1) = false) :
    EV T W X (.Call (.Name x p) (e :: es) [] pos) (dCall φ n g) := by
  obtain ⟨ta, pa, qa⟩ := ha
  refine ⟨_, pe_callS F hr hg hm hk hb (fun σ => L2N.passAt tk σ) pa hdb he hpl, fun w δ σ Q o s h => ?_⟩
  refine qa w δ σ _ o s (h.bind fun l w1 xs l1 o1 r1 h1 => ?_)
  split at h1
  · rename_i hl
    exact ⟨w1, l, rfl, o1, r1, hl, h1.sig fun _ _ _ q => q⟩
  · exact h1.elim
end
end Pd
namespace Pd
open PySem PySem.Spec PyProof.Rows L2
/-! ### a lambda handed to a def that calls it -/
/-- F: what the def makes of what the lambda gives -/
def HofOk (T : TB) (lv : Nat) (P : Program) (w : World) (K : PySem.W.Frag) (mg : Str → Option Value) (base : Heap) (x : Str) (F : Res D → Mem → Res D) : Prop :=
  ∃ (g : Addr) (a : Str) (pg : Arguments) (bg : List Stmt) (sg : Scope) (dV kV doc pm cdv ct oc : Value) (an od : Option Addr) (osl : Array (Option Value)) (Ng : List Str) (k : Nat),
    k ≤ lv ∧ mg x = some (.ref g) ∧ PySem.W.keepIn K (.ref g) = true ∧ K.lookup g = some ⟨oc, od, .func (PySem.W.fnOf x x pg bg sg dV kV doc pm an cdv ct), osl⟩ ∧ PySem.W.codeIn K cdv x = true ∧
    L2.Binds K (PySem.W.fnOf x x pg bg sg dV kV doc pm an cdv ct) [a] [] ∧ FnScope Ng [a] sg ∧ Ng[0]? = some a ∧ Vis sg a ∧ (a == ("__debug__" : Str)) = false ∧ (a == ("__classdict__" : Str)) = false ∧
    ∀ (A : Around) (stack : List Env) (f : Addr) (s : Shared) (wd : Wd) (Q : VK) (E : XK) (r : Res D), Room k (A.deeper (envOfC x sg s.heap.objs.size g cdv)) → wd.Ok ⟨K, mg, T⟩ →
      (∀ (W : WX) (pn : List (Addr × Obj)) (xe : Value → Shared → Prop) (p1 p2 : Pos), L2N.Takes ((cxOf (L2N.CX P w) P w K mg base Ng x sg g cdv A stack s wd.H E).tr pn xe) W →
        PE ((cxOf (L2N.CX P w) P w K mg base Ng x sg g cdv A stack s wd.H E).tr pn xe) (.Call (.Name a p1) [] [] p2)
          (fun σZ HZ Q => σZ[0]? = some (some (.ref f)) ∧ HZ = wd.H ∧ Post ⟨K, mg, T⟩ (fun c d _ H' => W c d σZ H') wd [] (RelD ⟨K, mg, T⟩) Q r)) →
      Post ⟨K, mg, T⟩ (fun c d _ H' => E c d H') wd [] (RelD ⟨K, mg, T⟩) Q (F r wd.M) →
      ∃ t, PSs (cxOf (L2N.CX P w) P w K mg base Ng x sg g cdv A stack s wd.H E) bg t ∧ t { nx := fun _ H' => Q .non H', rt := Q } (L2.start Ng [.ref f]) wd.H
theorem HofOk.mono {T : TB} {lv lv' : Nat} {P : Program} {w : World} {K : PySem.W.Frag} {mg : Str → Option Value} {base : Heap} {x : Str} {F : Res D → Mem → Res D} (h : HofOk T lv P w K mg base x F) (l : lv ≤ lv') : HofOk T lv' P w K mg base x F := by
  obtain ⟨g, a, pg, bg, sg, dV, kV, doc, pm, cdv, ct, oc, an, od, osl, Ng, k, hk, r⟩ := h
  exact ⟨g, a, pg, bg, sg, dV, kV, doc, pm, cdv, ct, oc, an, od, osl, Ng, k, Nat.le_trans hk l, r⟩
/-- the lambda's context, by L2N's ends -/
def lamCxN (X : Cx) (A : Around) (outer : List Env) (s : Shared) (H : Hp) (E : XK) (scope : Scope) (f c' : Addr) : Cx :=
  (LamX.lamCx X A outer s H E scope f c').tr [] fun e s' => wpAny (model X.prog X.w) (A.deeper (LamX.lamEnv X scope s.heap.objs.size f c')) (leaving (LamX.lamEnv X scope s.heap.objs.size f c') e) (fun _ s'' => L2N.CX X.prog X.w outer H s E e s'') (fun e' s'' => L2N.CX X.prog X.w outer H s E e' s'') s'
def dHof (F : Res D → Mem → Res D) (lam : EF D) : EF D := fun δ M => F (lam δ M) M
/-- the world behind the making of a lambda -/
theorem lam_world {T : TB} {X : Cx} {w : Wd} {H1 : Hp} (o : w.Ok (rc T X)) (eN : LamX.ExtN w.H H1) (T1 : LamX.Tabs T.tabs H1) :
    (⟨w.ρ, w.M, H1, fun c q => H1 c = some (LamX.CodeO c q)⟩ : Wd).Ok (rc T X) ∧ w.le ⟨w.ρ, w.M, H1, fun c q => H1 c = some (LamX.CodeO c q)⟩ := by
  have le : w.le ⟨w.ρ, w.M, H1, fun c q => H1 c = some (LamX.CodeO c q)⟩ := ⟨Nat.le_refl _, fun _ _ => rfl, fun a xs h => eN a _ h (fun _ z => by cases z), fun a u x h => eN a _ h (fun _ z => by cases z)⟩
  refine ⟨⟨fun n m e => ?_, o.inj, fun c q h => h, fun n c q hn hc z => ?_, fun p hp => ?_⟩, le⟩
  · obtain ⟨u, h, r, nt⟩ := o.at_ n m e
    exact ⟨u, eN _ _ h nt, r.mono le, nt⟩
  · obtain ⟨u, h, r, nt⟩ := o.at_ n _ (List.getElem?_eq_getElem hn)
    have h1 := eN _ _ h nt
    have hc : H1 c = some (LamX.CodeO c q) := hc
    have z : w.ρ n = c := z
    rw [z, hc] at h1
    have e := Option.some.inj h1
    subst e
    cases hm : w.M[n] with
    | lst l => rw [hm] at r; obtain ⟨xs, e, _⟩ := r; unfold LamX.CodeO at e; cases e
    | fz l => rw [hm] at r; obtain ⟨ob, xs, e, _⟩ := r; unfold LamX.CodeO at e; cases e
    | ins C fs => rw [hm] at r; obtain ⟨Ca, dx, fv, _, e, _⟩ := r; unfold LamX.CodeO at e; cases e
    | any => rw [hm] at r; exact r
  · obtain ⟨ps, h1, h2, h3⟩ := T1 p hp
    exact ⟨ps, h1, h2, h3⟩
section
variable {T : TB} {W : WX} {X : Cx} {pins : List (Addr × Obj)} {σ : St} {s : Shared}
/-- x(), in the def that got the lambda -/
theorem lam_act {δ : DEnv} {wd : Wd} {Eg : XK} {Ng : List Str} {qg : Str} {sg : Scope} {g f c' : Addr} {cdg pm ctv : Value} {params : Arguments} {body : Expr} {scope : Scope} {k : Nat} {a : Str} {pn : List (Addr × Obj)} {xe : Value → Shared → Prop} {W' : WX} {p1 p2 : Pos} {lam : EF D}
    (I : Inv X pins σ wd.H s) (o : wd.Ok (rc T X)) (sr : SRel (rc T X) wd δ σ) (L : LamX.LamS X.env.scope scope) (hf : s.heap.get? f = some (PySem.W.kla_obj "<lambda>" (X.env.qual ++ "<lambda>") params body scope (cloFrom X.env.cells scope.names []) pm c' ctv)) (hfn : wd.H f = none) (hfr : f ∉ frs X.stack)
    (hco : wd.H c' = some (LamX.CodeO c' (X.env.qual ++ "<lambda>")))
    (hbind : bindArgs (PySem.W.kla_fn "<lambda>" (X.env.qual ++ "<lambda>") params body scope (cloFrom X.env.cells scope.names []) pm (.ref c') ctv) ⟨[], []⟩ = pure [])
    (tk : L2N.Takes ((cxOf (L2N.CX X.prog X.w) X.prog X.w X.K X.mg X.base Ng qg sg g cdg X.A X.stack s wd.H Eg).tr pn xe) W') (hr : Room (k + 1) (X.A.deeper (envOfC qg sg s.heap.objs.size g cdg)))
    (hbody : ∀ (A : Around) (outer : List Env) (s : Shared) (H : Hp) (E : XK), Room k (A.deeper (LamX.lamEnv X scope s.heap.objs.size f c')) → EV T (fun c d _ H' => E c d H') (lamCxN X A outer s H E scope f c') body lam)
    (hN : Ng[0]? = some a) (hv : Vis sg a) (hd : (a == ("__debug__" : Str)) = false) (hcd : (a == ("__classdict__" : Str)) = false) :
    PE ((cxOf (L2N.CX X.prog X.w) X.prog X.w X.K X.mg X.base Ng qg sg g cdg X.A X.stack s wd.H Eg).tr pn xe) (.Call (.Name a p1) [] [] p2)
      (fun σZ HZ Q => σZ[0]? = some (some (.ref f)) ∧ HZ = wd.H ∧ Post (rc T X) (fun c d _ H' => W' c d σZ H') wd [] (RelD (rc T X)) Q (lam δ wd.M)) := by
  refine ⟨fun pinsZ sZ σZ HZ Q IZ h => ?_⟩
  obtain ⟨hs, hc, ht⟩ := h
  subst hc
  refine wpAny_Call_Name_kw (thn ((pe_var (pos := p1) (i := 0) hN hv hd hcd).run pinsZ sZ σZ wd.H (fun v H1 => v = .ref f ∧ H1 = wd.H) IZ ⟨.ref f, hs, rfl, rfl⟩) fun u s1 ⟨v, H1, I1, r1, q1⟩ => ?_)
  obtain ⟨ev, eH⟩ := q1
  subst ev
  rw [eH] at I1
  obtain rfl : u = Value.ref f := r1
  have of1 : s1.heap.get? f = some (PySem.W.kla_obj "<lambda>" (X.env.qual ++ "<lambda>") params body scope (cloFrom X.env.cells scope.names []) pm c' ctv) := I1.base.keep f _ hf hfn hfr (fun z => nomatch (show f ∈ ([] : List Addr) from z))
  refine PySem.W.callWith_F0 ⟨_, _, _, _, of1⟩ ?_
  have un : Un (frs X.stack) [] wd.H wd.H s.heap s1.heap := I1.base
  obtain ⟨⟨oc, vs, t, hoc, hdc, hvc⟩, _, _⟩ := I1.hok c' _ hco
  have go : codeAny (model X.prog X.w) (X.A.deeper (envOfC qg sg s.heap.objs.size g cdg)) (.call (.ref f) ⟨[], []⟩) (CR (L2N.CX X.prog X.w) (envOfC qg sg s.heap.objs.size g cdg :: X.stack) X.prog X.w wd.H s1 Q (WE W' σZ)) s1 := by
    refine PySem.W.kla_callFunE hr.depth of1 rfl L.co L.gen rfl ⟨c', oc, vs, t, rfl, hoc, hdc, hvc⟩ ?_
    rw [hbind]
    refine wpAny_pure (wpAny_newFunctionEnv (fun y hy => (L.own y hy).2) (fun y hy => absurd hy (by simp)) (fun h₁ hns hsb => ⟨I1.nolimit.fresh _ hsb, ?_⟩) L.kind)
    show codeAny _ _ (.expr body (LamX.lamEnv X scope s1.heap.objs.size f c')) _ _
    have kp : ∀ b o, s1.heap.get? b = some o → h₁.get? b = some o := fun b o e => hsb.extBut b o (Nat.ne_of_lt (Heap.lt_size e)) (Heap.get?_push_of_some _ e)
    have J := (LamX.lam_start2 (A := X.A.deeper (envOfC qg sg s.heap.objs.size g cdg)) (outer := envOfC qg sg s.heap.objs.size g cdg :: X.stack) (E := WE W' σZ) (scope := scope) (f := f) (c' := c') (tk := s1.toks + ([] : List (Str × Value)).length) I L I1.env0 hr.hd un hns kp).toTry
      (fun e s' => wpAny (model X.prog X.w) ((X.A.deeper (envOfC qg sg s.heap.objs.size g cdg)).deeper (LamX.lamEnv X scope s1.heap.objs.size f c')) (leaving (LamX.lamEnv X scope s1.heap.objs.size f c') e) (fun _ s'' => L2N.CX X.prog X.w (envOfC qg sg s.heap.objs.size g cdg :: X.stack) wd.H s1 (WE W' σZ) e s'') (fun e' s'' => L2N.CX X.prog X.w (envOfC qg sg s.heap.objs.size g cdg :: X.stack) wd.H s1 (WE W' σZ) e' s'') s')
    obtain ⟨tb, hp, hq⟩ := hbody (X.A.deeper (envOfC qg sg s.heap.objs.size g cdg)) (envOfC qg sg s.heap.objs.size g cdg :: X.stack) s1 wd.H (WE W' σZ) (hr.deeper _)
    refine PySem.W.kla_codeExpr (wpAny_mono (hp.run [] _ _ wd.H Q J (hq wd δ σ Q o sr (ht.sig fun _ _ _ z => z))) (fun v s' hq => ?_) fun e s' hq => hq)
    obtain ⟨w', H', J', rv, q⟩ := hq
    exact ⟨w', H', J'.os, J'.bare, J'.base, J'.hok, rv, q⟩
  refine wpAny_call (codeAny_mono go fun r s' hq => ?_)
  cases r with
  | error e => exact L2N.passAt tk σZ pinsZ wd.H s1 e s' I1 hq
  | ok fl =>
    cases fl with
    | ret u => exact I1.after hq
    | next => exact False.elim hq
    | brk => exact False.elim hq
    | cont => exact False.elim hq
theorem EV.hof {F : Res D → Mem → Res D} {lam : EF D} {x : Str} {c P : Addr} {k : Nat} {params : Arguments} {body : Expr} {scope : Scope} {p lpos pos : Pos} (hg : Gl X x) (hH : HofOk T k X.prog X.w X.K X.mg X.base x F) (hr : Room (k + 2) X.A) (tk : L2N.Takes X W)
    (TBx : LamX.TabB X.base X.mg c P) (hcode : X.env.code = .ref c) (hmT : (P, X.env.qual ++ "<lambda>") ∈ T.tabs) (hu : ∀ p ∈ T.tabs, p.1 = P → p.2 = X.env.qual ++ "<lambda>") (L : LamX.LamS X.env.scope scope) (hdef : defaultsOf params X.env = ([], []))
    (hbind : ∀ (q : Str) (cl : List (Str × Addr)) (pm cv ctv : Value), bindArgs (PySem.W.kla_fn "<lambda>" q params body scope cl pm cv ctv) ⟨[], []⟩ = pure [])
    (hbody : ∀ (A : Around) (outer : List Env) (s : Shared) (H : Hp) (E : XK) (f c' : Addr), Room k (A.deeper (LamX.lamEnv X scope s.heap.objs.size f c')) → EV T (fun c d _ H' => E c d H') (lamCxN X A outer s H E scope f c') body lam)
    (hdb : (x == ("__debug__" : Str)) = false) : EV T W X (.Call (.Name x p) [.Lambda params body scope lpos] [] pos) (dHof F lam) := by
  obtain ⟨g, a, pg, bg, sg, dV, kV, doc, pm, cdv, ct, oc, an, od, osl, Ng, k0, hk0, hm, hk, lk, hcg, hb, Sg, hNg, hva, hd1, hd2, run⟩ := hH
  refine ⟨fun σ H Q => ∃ w δ, w.H = H ∧ w.Ok (rc T X) ∧ SRel (rc T X) w δ σ ∧ Post (rc T X) W w σ (RelD (rc T X)) Q (F (lam δ w.M) w.M), ⟨fun pins s σ H Q I h => ?_⟩, fun w δ σ Q o s h => ⟨w, δ, rfl, o, s, h⟩⟩
  obtain ⟨w, δ, rfl, o, sr, h⟩ := h
  refine wpAny_Call_Name_kw (ld_glob I hg hm ?_ hdb)
  refine PySem.W.callWith_K (h₀ := X.base) I.ok.mod.kin hk ?_ (by rfl) (by rfl)
  show wpAny _ _ (spliced ((false, eval (.Lambda params body scope lpos) X.env) :: backTo pos (starEach [] X.env))) _ _ s
  refine Calls.spliced_cons (LamX.lam_make2 I TBx hcode hmT hu o.tabs hdef (L.has I.ok) fun f c' pm' ctv H1 s' I1 eN T1 hf hfn hfr hco => ?_)
  refine Calls.spliced_nil ⟨I1.kIn, ?_⟩
  obtain ⟨o1, le⟩ := lam_world o eN T1
  have go : codeAny (model X.prog X.w) X.A (.call (.ref g) ⟨[.ref f], []⟩) (CR (L2N.CX X.prog X.w) X.stack X.prog X.w H1 s' Q (WE W σ)) s' := by
    refine LamX.run_ofS (k := k + 1) (N := Ng) (ps := [a]) (us := [.ref f]) (vs := [.ref f]) lk hcg Sg hr I1.env0 (hb s' [.ref f] I1.kIn rfl) (.cons rfl .nil) rfl fun hr' => ?_
    refine run X.A X.stack f s' ⟨w.ρ, w.M, H1, fun c q => H1 c = some (LamX.CodeO c q)⟩ Q (WE W σ) (lam δ w.M) (hr'.mono (Nat.le_trans hk0 (Nat.le_succ _))) o1 (fun W' pn xe p1 p2 tk' => ?_) ((Post.at le h).sig fun _ _ _ z => z)
    exact lam_act (wd := ⟨w.ρ, w.M, H1, fun c q => H1 c = some (LamX.CodeO c q)⟩) I1 o1 (sr.mono le) L hf hfn hfr hco (hbind _ _ _ _ _) tk' hr' (fun A outer s H E' hr2 => hbody A outer s H E' f c' hr2) hNg hva hd1 hd2
  refine wpAny_call (codeAny_mono go fun r s2 hq => ?_)
  cases r with
  | error e => exact L2N.passAt tk σ pins H1 s' e s2 I1 hq
  | ok fl =>
    cases fl with
    | ret u => exact I1.after hq
    | next => exact False.elim hq
    | brk => exact False.elim hq
    | cont => exact False.elim hq
/-! ### a slot that holds a def -/
/-- S: what a module's name stands for, if a def: its arity and its function -/
def dCallV (S : Str → Option (Nat × (List D → Mem → Res D))) (i : Nat) (g : EF (List D)) : EF D := fun δ M => match δ[i]? with
  | some (some (.gl x)) => (match S x with
    | some p => dCall p.2 p.1 g δ M
    | none => .bad)
  | _ => .bad
theorem EV.callV {S : Str → Option (Nat × (List D → Mem → Res D))} {i k : Nat} {a : Str} {e : Expr} {es : List Expr} {p pos : Pos} {g : EF (List D)}
    (hS : ∀ x n φ, S x = some (n, φ) → ∃ f fd j ps, j ≤ k ∧ X.mg x = some (.ref f) ∧ FnOk X.prog X.w X.K X.mg X.base (L2N.CX X.prog X.w) j f fd ps (spOf (rc T X) n φ) ∧ PySem.W.keepIn X.K (.ref f) = true ∧ Binds X.K fd ps [])
    (hr : Room k X.A) (hN : X.N[i]? = some a) (hv : Vis X.env.scope a) (tk : L2N.Takes X W) (ha : EA T W X (e :: es) g) (hdb : (a == ("__debug__" : Str)) = false) (hcd : (a == ("__classdict__" : Str)) = false)
    (he : starEach (e :: es) X.env = (false, eval e X.env) :: starEach es X.env) (hpl : (backTo pos (starEach es X.env)).any (·.1) = false) :
    EV T W X (.Call (.Name a p) (e :: es) [] pos) (dCallV S i g) := by
  obtain ⟨ta, pa, qa⟩ := ha
  refine ⟨fun σ H Q => ∃ f n φ fd j ps, j ≤ k ∧ σ[i]? = some (some (.ref f)) ∧ FnOk X.prog X.w X.K X.mg X.base (L2N.CX X.prog X.w) j f fd ps (spOf (rc T X) n φ) ∧ PySem.W.keepIn X.K (.ref f) = true ∧ Binds X.K fd ps [] ∧ ta σ H fun vs H1 => spOf (rc T X) n φ vs H1 Q (WE W σ), ⟨fun pins s σ H Q I h => ?_⟩, fun w δ σ Q o s h => ?_⟩
  · obtain ⟨f, n, φ, fd, j, ps, hj, hs, F, hk, hb, ht⟩ := h
    refine wpAny_Call_Name_kw (thn ((pe_var (pos := p) hN hv hdb hcd).run pins s σ H (fun v H1 => v = .ref f ∧ H1 = H) I ⟨.ref f, hs, rfl, rfl⟩) fun u s1 ⟨v, H1, I1, r1, q1⟩ => ?_)
    obtain ⟨rfl, rfl⟩ := q1
    cases r1
    refine PySem.W.callWith_K (h₀ := X.base) I.ok.mod.kin hk (thn (pa.run pos pins s1 σ _ _ I1 ht) fun us s2 ⟨vs, H2, I2, r, q⟩ => ⟨I2.kIn, ?_⟩) he hpl
    exact run_fnS (F.mono hj) hr hb (L2N.passAt tk σ) I2 r q
  · unfold dCallV at h
    split at h
    · rename_i x ex
      split at h
      · rename_i pr es'
        obtain ⟨n, φ⟩ := pr
        obtain ⟨f, fd, j, ps, hj, hm, F, hk, hb⟩ := hS x n φ es'
        obtain ⟨v, e1, r1⟩ := s.at_ i _ ex
        unfold RelD at r1
        obtain ⟨u, hu, ru⟩ := r1
        have hu : X.mg x = some u := hu
        rw [hm] at hu
        cases hu
        have ev : v = .ref f := by
          cases v with
          | ref b => exact congrArg V.ref (Value.ref.inj ru).symm
          | _ => first | (obtain ⟨t, z⟩ := ru; cases z; done) | cases ru
        subst ev
        refine ⟨f, n, φ, fd, j, ps, hj, e1, F, hk, hb, qa w δ σ _ o s (h.bind fun l w1 xs l1 o1 r1 h1 => ?_)⟩
        split at h1
        · rename_i hl
          exact ⟨w1, l, rfl, o1, r1, hl, h1.sig fun _ _ _ q => q⟩
        · exact h1.elim
      · exact h.elim
    · exact h.elim
end
end Pd
namespace Pd
open PySem PySem.Spec PyProof.Rows L2
/-! ### iterators that end while an exception is handled -/
section
variable {prog : Program} {w : World} {A : Around} {E : Value → Shared → Prop} {s : Shared}
/-- everything that stood stands -/
def Grown (h h' : Heap) : Prop := ∀ b o, h.get? b = some o → h'.get? b = some o
theorem stop_raised {α : Type} {x1 : Addr} {Q : α → Shared → Prop} (hot : HotX.HotAt A x1 s.heap)
    (k : ∀ (a : Addr) (h' : Heap), Grown s.heap h' → (∃ o, h'.get? a = some o ∧ o.cls = .type "StopIteration") → E (.ref a) { s with heap := h' }) :
    wpAny (model prog w) A (newExc (.type "StopIteration") [] >>= fun e => (raiseNew e : Sem α)) Q E s := by
  obtain ⟨hh, o1, vs1, h1, d1, c1⟩ := hot
  refine wpAny_bind ?_
  unfold newExc newTuple
  apply wpAny_bind
  refine wpAny_newObj_type ?step1 (by size_fits)
  case step1 =>
    apply wpAny_bind
    refine wpAny_of_eq (a := Value.none) (by first | rfl | (simp only [firstArgMember]; rfl)) ?step2
    refine wpAny_newObj_type ?step3 (by size_fits)
    have up : ∀ {b o} (p q : Obj), s.heap.get? b = some o → ((s.heap.push p).push q).get? b = some o := fun p q e => Heap.get?_push_of_some q (Heap.get?_push_of_some p e)
    refine HotX.raiseNew_hot ⟨hh, o1, vs1, up _ _ h1, d1, c1⟩ (Nat.ne_of_lt (Heap.lt_size (Heap.get?_push_of_some _ h1))) (Heap.get?_push_size _ rfl) rfl (by simp only [Array.size_append]; simp; omega) ?step4
    refine k _ _ (fun b o e => ?_) ⟨_, Heap.get?_update_self _ (Heap.get?_push_size _ rfl) rfl, rfl⟩
    rw [Heap.get?_update_other _ _ (Nat.ne_of_gt (Heap.lt_size (Heap.get?_push_of_some _ e)))]
    exact up _ _ e
/-- next of an iterator whose turn ends by StopIteration, caught -/
theorem list_over {it l x1 : Addr} {i : Nat} {items} {Q : Option Value → Shared → Prop} (hot : HotX.HotAt A x1 s.heap) (nx : x1 ≠ it)
    (hit : s.heap.IsListIter it l i) (hl : s.heap.IsList l items) (hx : items[i]? = none)
    (k : ∀ h', (∀ b o, b ≠ it → s.heap.get? b = some o → h'.get? b = some o) → Q none { s with heap := h' }) : wpAny (model prog w) A (pyNext (.ref it)) Q E s := by
  obtain ⟨o, ho, hc, hd⟩ := id hit
  obtain ⟨ol, hol, _, nl, hdl⟩ := hl
  obtain ⟨hh, o1, vs1, h1, d1, c1⟩ := hot
  unfold pyNext
  apply wpAny_bind
  apply wpAny_attempt
  refine wpAny_callSpecial?_slot (name := Str.ofString "__next__") hit.typeIs slot_listiter_next ?call
  refine wpAny_call_entry slot_listiter_next hit.typeIs entry_listiter_next ?body (args_listiter_next _)
  show wpAny _ _ (field (.ref it) 0 >>= _) _ _ s
  apply wpAny_bind
  refine wpAny_field ho hd (x := .ref l) rfl ?_
  show wpAny _ _ (if (Value.ref l == Value.none) = true then _ else _) _ _ s
  have q0 : ¬ ((Value.ref l == Value.none) = true) := Bool.false_ne_true
  rw [if_neg q0]
  show wpAny _ _ (field (.ref it) 1 >>= _) _ _ s
  apply wpAny_bind
  refine wpAny_field ho hd (x := .int i 0) rfl ?_
  show wpAny _ _ (seqItems? (.ref l) >>= _) _ _ s
  apply wpAny_bind
  refine wpAny_seqItems hol hdl ?_
  simp only [Int.toNat_natCast, hx]
  apply wpAny_bind
  apply wpAny_rule
  apply wpAny_bind
  refine wpAny_setField ho hd (by simp) ?_
  show wpAny _ _ (newExc (.type "StopIteration") [] >>= fun e => (raiseNew e : Sem Fin)) _ _ _
  apply stop_raised (A := A.in1) (x1 := x1) ⟨hh, o1, vs1, (Heap.get?_update_other _ _ (Ne.symm nx)).trans h1, d1, c1⟩
  intro a h' g t
  apply wpAny_bind
  refine wpAny_isInstance (T := "StopIteration") (b := true) t isSubtype_stop ?_
  exact wpAny_pure (k _ fun b o hb e => g b o ((Heap.get?_update_other _ _ (Ne.symm hb)).trans e))
theorem tuple_over {it t x1 : Addr} {i : Nat} {items} {Q : Option Value → Shared → Prop} (hot : HotX.HotAt A x1 s.heap) (nx : x1 ≠ it)
    (hit : IsTupIter s.heap it t i) (ht : IsTup s.heap t items) (hx : items[i]? = none)
    (k : ∀ h', (∀ b o, b ≠ it → s.heap.get? b = some o → h'.get? b = some o) → Q none { s with heap := h' }) : wpAny (model prog w) A (pyNext (.ref it)) Q E s := by
  obtain ⟨o, ho, hc, hd⟩ := id hit
  obtain ⟨ol, hol, _, nl, hdl⟩ := ht
  obtain ⟨hh, o1, vs1, h1, d1, c1⟩ := hot
  unfold pyNext
  apply wpAny_bind
  apply wpAny_attempt
  refine wpAny_callSpecial?_slot (name := Str.ofString "__next__") hit.typeIs slot_tupleiter_next ?call
  refine wpAny_call_entry slot_tupleiter_next hit.typeIs entry_tupleiter_next ?body (args_tupleiter_next _)
  show wpAny _ _ (field (.ref it) 0 >>= _) _ _ s
  apply wpAny_bind
  refine wpAny_field ho hd (x := .ref t) rfl ?_
  show wpAny _ _ (if (Value.ref t == Value.none) = true then _ else _) _ _ s
  have q0 : ¬ ((Value.ref t == Value.none) = true) := Bool.false_ne_true
  rw [if_neg q0]
  show wpAny _ _ (field (.ref it) 1 >>= _) _ _ s
  apply wpAny_bind
  refine wpAny_field ho hd (x := .int i 0) rfl ?_
  show wpAny _ _ (seqItems? (.ref t) >>= _) _ _ s
  apply wpAny_bind
  refine wpAny_seqItems hol hdl ?_
  simp only [Int.toNat_natCast, hx]
  apply wpAny_bind
  apply wpAny_rule
  apply wpAny_bind
  refine wpAny_setField ho hd (by simp) ?_
  show wpAny _ _ (newExc (.type "StopIteration") [] >>= fun e => (raiseNew e : Sem Fin)) _ _ _
  apply stop_raised (A := A.in1) (x1 := x1) ⟨hh, o1, vs1, (Heap.get?_update_other _ _ (Ne.symm nx)).trans h1, d1, c1⟩
  intro a h' g t
  apply wpAny_bind
  refine wpAny_isInstance (T := "StopIteration") (b := true) t isSubtype_stop ?_
  exact wpAny_pure (k _ fun b o hb e => g b o ((Heap.get?_update_other _ _ (Ne.symm hb)).trans e))
/-- a tuple unpacked, all of it -/
theorem unpacked_hot {t x1 : Addr} {items : Array Value} {Q : List Value → Shared → Prop} (hot : HotX.HotAt A x1 s.heap) (ht : IsTup s.heap t items)
    (k : ∀ h', Grown s.heap h' → Q items.toList { s with heap := h' }) : wpAny (model prog w) A (unpackItems (.ref t) items.size none) Q E s := by
  have small : t < s.heap.objs.size := by obtain ⟨o, ho, _⟩ := ht; exact Heap.lt_size ho
  obtain ⟨hh, o1, vs1, h1, d1, c1⟩ := hot
  have x1s : x1 < s.heap.objs.size := Heap.lt_size h1
  unfold unpackItems
  apply wpAny_bind
  unfold notIterableAtAll
  apply wpAny_bind
  refine wpAny_specialOf ht.typeIs slot_tuple_iter.lookup (wpAny_pure ?_)
  simp only [Bool.false_eq_true, if_false]
  apply wpAny_bind
  refine wpAny_holding (iter_tuple ht ?_)
  apply wpAny_bind
  refine wpAny_holding (draw_tuple (t := t) (items := items) (Nat.ne_of_lt small) items.size 0 _ _ ⟨_, Heap.get?_push_size _ rfl, rfl, rfl⟩ (ht.push _) (by omega) fun h2 it2 sb2 => ?_)
  have whole : List.take items.size (List.drop 0 items.toList) = items.toList := by rw [List.drop_zero, ← Array.length_toList, List.take_length]
  have grown2 : ∀ b o, s.heap.get? b = some o → h2.get? b = some o := fun b o e => sb2.extBut b o (Nat.ne_of_lt (Heap.lt_size e)) (Heap.get?_push_of_some _ e)
  rw [whole, if_neg (by simp)]
  apply wpAny_bind
  refine wpAny_holding (tuple_over (x1 := x1) ⟨hh, o1, vs1, grown2 _ _ h1, d1, c1⟩ (Nat.ne_of_lt x1s) it2 ((ht.push _).extBut sb2.extBut (Nat.ne_of_lt small)) (by simp) fun h3 g3 => ?_)
  simp only [Option.isSome_none, Bool.false_eq_true, if_false]
  exact wpAny_pure (k h3 fun b o e => g3 b o (Nat.ne_of_lt (Heap.lt_size e)) (grown2 b o e))
theorem tuple_stored_hot {env : Env} {elts : List Expr} {j : Nat} {pos : Pos} {t x1 : Addr} {items : Array Value} {Q : Unit → Shared → Prop} (hot : HotX.HotAt A x1 s.heap) (ht : IsTup s.heap t items)
    (hn : (assignEach elts env).length = items.size) (hstar : (assignEach elts env).findIdx? (·.1) = none)
    (k : ∀ h', Grown s.heap h' → wpAny (model prog w) A (assignInOrder ((assignEach elts env).map (·.2)) items.toList) Q E { s with heap := h' }) :
    wpAny (model prog w) A (assign (.Tuple elts j pos) env (.ref t)) Q E s := by
  rw [assign_Tuple]
  apply wpAny_bind
  apply wpAny_standAt
  unfold unpack
  rw [hn, hstar]
  apply wpAny_bind
  exact wpAny_holding (unpacked_hot hot ht k)
end
/-! ### the handled exception, as a context tells it -/
structure HotS (ea : Addr) (en : Str) (X : Cx) : Prop where
  hd : X.A.handled = some (.ref ea)
  ob : ∃ o vs C, X.s_0.heap.get? ea = some o ∧ o.data = .fields vs ∧ vs[2]? = some .none ∧ X.mg en = some (.ref C) ∧ o.cls = .ref C ∧ o.dict = none ∧ ExcC X.K C
  fr : X.H_0 ea = none
  nf : ea ∉ X.fs
  ne : ea ∉ X.ex
section
variable {ea : Addr} {en : Str} {X : Cx} {pins : List (Addr × Obj)} {σ : St} {H : Hp} {s : Shared}
theorem HotS.get (h : HotS ea en X) (I : Inv X pins σ H s) : ∃ o vs C, s.heap.get? ea = some o ∧ o.data = .fields vs ∧ vs[2]? = some .none ∧ X.mg en = some (.ref C) ∧ o.cls = .ref C ∧ o.dict = none ∧ ExcC X.K C := by
  obtain ⟨o, vs, C, e, r⟩ := h.ob
  exact ⟨o, vs, C, I.base.keep _ _ e h.fr h.nf h.ne, r⟩
theorem HotS.hot (h : HotS ea en X) (I : Inv X pins σ H s) : HotX.HotAt X.A ea s.heap := by
  obtain ⟨o, vs, C, e, d, c, _⟩ := h.get I
  exact ⟨h.hd, o, vs, e, d, c⟩
theorem HotS.free (h : HotS ea en X) (I : Inv X pins σ H s) : H ea = none := by
  obtain ⟨o, vs, C, e, _⟩ := h.ob
  exact I.base.free _ _ e h.fr h.ne
theorem HotS.low (h : HotS ea en X) (I : Inv X pins σ H s) : ea < X.s_0.heap.objs.size := by
  obtain ⟨o, vs, C, e, _⟩ := h.ob
  exact Heap.lt_size e
/-- a block within -/
theorem HotS.blk (h : HotS ea en X) (I : Inv X pins σ H s) {scope : Scope} {cenv : Env} {fp : List Addr} (hf : ea ∉ fp) : HotS ea en (X.blk s H scope cenv fp) where
  hd := h.hd
  ob := h.get I
  fr := h.free I
  nf := fun z => by
    rcases List.mem_cons.mp (I.stkSub _ z) with e | e
    · have a := h.low I
      have b := I.ok.above
      rw [e] at a
      exact Nat.lt_irrefl _ (Nat.lt_of_lt_of_le a b)
    · exact h.nf e
  ne := hf
/-- (a, b, ..) = a tuple -/
theorem pg_tupH {es : List Expr} {k : Nat} {t : TGs} {n : Nat} {pos : Pos} (hh : HotS ea en X) (h : PGs X es t) (hn : (assignEach es X.env).length = n) (hst : (assignEach es X.env).findIdx? (·.1) = none) : PG X (.Tuple es k pos) (gTup X.K n t) := by
  refine ⟨fun pins s σ H v u Q I r ⟨a, xs, e1, hq, hl, hw⟩ => ?_⟩
  subst e1
  obtain rfl : u = Value.ref a := r
  obtain ⟨its, rv, ht, hz⟩ := I.tuple hq
  refine tuple_stored_hot (hh.hot I) ht (by rw [hn, ← hl, rv.length]; simp) hst fun h' g => ?_
  exact h.run pins _ σ H xs _ Q (I.kept (t' := s.toks) g) (by simpa using rv) hw
/-! ### a list comprehension over a list, while an exception is handled -/
/-- the turns of the iterator it over the list at a -/
theorem turnH {B : Cx} {a it : Addr} {i : Nat} {τ : St} {tg : Expr} {E : Value → Shared → Prop} {xs : List V} (hh : HotS ea en B) (I : Inv B [] τ H s) (st : s.heap.IsListIter it a i) (f : FpOk B [] H it) (hq : SqL B.K H a xs) :
    wpAny (model B.prog B.w) B.A (pyNext (.ref it)) (fun r s1 => match r with
      | none => xs[i]? = none ∧ Inv B [] τ H s1
      | some u => ∃ x, xs[i]? = some x ∧ RelV x u ∧ wpAny (model B.prog B.w) B.A (letOwnedTupleGo tg (.ref it) u) (fun _ s2 => Inv B [] τ H s2 ∧ s2.heap.IsListIter it a (i + 1)) E s1) E s := by
  obtain ⟨its, rv, p, hz⟩ := I.list hq
  obtain ⟨f0, f1, f2, f3, f4, f5⟩ := f
  have len := rv.length
  cases c : xs[i]? with
  | none =>
    have c' := List.getElem?_eq_none_iff.mp c
    refine list_over (hh.hot I) (fun z => ?_) st p.isList (by simp; omega) fun h' g => ⟨rfl, I.turned (t' := s.toks) (fun b o hb e => g b o hb e) f0 f1 f3 f4 f5⟩
    rcases f3 with z2 | z2
    · exact hh.ne (z ▸ z2)
    · have := hh.low I
      rw [z] at this
      exact Nat.lt_irrefl _ (Nat.lt_of_lt_of_le this z2)
  | some x =>
    obtain ⟨u, hu, ru⟩ := rv.get c
    refine wpAny_pyNext_list_item st p.isList (x := u) (by simpa using hu) fun h' it' sb => ⟨x, rfl, ru, ?_⟩
    obtain ⟨o, e1, e2, e3⟩ := id it'
    exact go_of (s := { s with heap := h' }) e1 e2 e3 (by decide) ⟨I.turned (t' := s.toks) (fun b o hb e => (sb.2 b hb).trans e) f0 f1 f3 f4 f5, it'⟩
theorem lc_hot {Q : VK} {elt tg iter : Expr} {ifs : List Expr} {scope : Scope} {own : List (Str × Nat)} {pos : Pos} {ti : TE} {g : TG} {tt : TT} {te : TE}
    (hh : HotS ea en X) (hN : X.N.Nodup) (hi : PE X iter ti) (ok : BlkOk X.N X.env.scope scope own)
    (hb : ∀ (s : Shared) (H : Hp) (C : Addr) (cl : List (Str × Addr)) (fp : List Addr), HotS ea en (X.blk s H scope (compEnvC scope cl C X.env) fp) → PG (X.blk s H scope (compEnvC scope cl C X.env) fp) tg g ∧ PTs (X.blk s H scope (compEnvC scope cl C X.env) fp) ifs tt ∧ PE (X.blk s H scope (compEnvC scope cl C X.env) fp) elt te)
    (hs : ∀ x, foldedSetIterable iter X.env x = pure x) : PE X (.ListComp elt [⟨tg, iter, ifs, 0⟩] scope pos) (tLc (iList X.K ti) g tt te (own.map (·.2))) := by
  refine ⟨fun pins s σ H Q I h => ?_⟩
  rw [eval_ListComp]
  have caught : ∀ y ∈ scope.names, y.2 = .free → ∃ c, X.env.cells.lookup y.1 = some c := fun y hy e => (ok.free y hy e).elim (fun z => I.ok.has _ (.inl z)) fun z => I.ok.has _ (.inr z)
  refine wpAny_comprehension_free (use := none) rfl hs (closure_ok caught) ok.kind (fun y hy e => by rw [ok.uniq y hy, e]) ?_
  refine thn (hi.run pins s σ H _ I h) fun xv s1 ⟨x, H1, I1, r1, a, e1, ⟨xs0, hq0⟩, turns⟩ => ?_
  subst e1
  obtain rfl : xv = Value.ref a := r1
  obtain ⟨its0, rv0, p0, hz0⟩ := I1.list hq0
  refine wpAny_pyIter_list p0.isList ?_
  generalize hS2 : ({ s1 with heap := s1.heap.push { cls := .type "list_iterator", data := .fields #[.ref a, .int 0 0] } } : Shared) = s2
  have I2 : Inv X pins σ H1 s2 := by rw [← hS2]; exact I1.kept (t' := s1.toks) fun b o e => Heap.get?_push_of_some _ e
  generalize hit : s1.heap.objs.size = it
  have st2 : s2.heap.IsListIter it a 0 := by rw [← hS2, ← hit]; exact ⟨_, Heap.get?_push_size _ rfl, rfl, rfl⟩
  have itH1 : H1 it = none := I1.hok.fresh (Nat.le_of_eq hit)
  have f2 : FpOk X pins H1 it := I1.fpOk (Nat.le_of_eq hit) itH1
  have itlt : it < s2.heap.objs.size := by obtain ⟨o, e, _⟩ := st2; exact Heap.lt_size e
  refine wpAny_newObj_type (newEnv_comp ?_) (by show 0 ≤ sizeLine; decide)
  generalize hD : s2.heap.objs.size = L
  have freshL : H1 L = none := I2.hok.fresh (Nat.le_of_eq hD)
  obtain ⟨Wv, ⟨m0, w0⟩, turn⟩ := turns L freshL
  generalize hS3 : ({ s2 with heap := s2.heap.push { cls := .type "list", data := .seq ([] : List Value).toArray } } : Shared) = s3
  have hp3 : s3.heap = s2.heap.push { cls := .type "list", data := .seq ([] : List Value).toArray } := by rw [← hS3]
  have I3 : Inv X pins σ (upd H1 L (.lst [])) s3 := by
    rw [← hS3]
    exact I2.laid (t' := s2.toks) (fun b o e => Heap.get?_push_of_some _ e) (Nat.le_of_eq hD) ⟨Nat.zero_le _, [], 0, .nil, by rw [← hD]; exact Heap.get?_push_size _ rfl⟩
  have neL : it ≠ L := by rw [← hD]; exact Nat.ne_of_lt itlt
  have f3 : FpOk X pins (upd H1 L (.lst [])) it := ⟨by rw [upd_ne neL]; exact itH1, f2.2⟩
  have st3 : s3.heap.IsListIter it a 0 := by
    obtain ⟨o, e, r⟩ := st2
    exact ⟨o, by rw [hp3]; exact Heap.get?_push_of_some _ e, r⟩
  have notIt : ea ∉ [it] := fun z => by
    have e : ea = it := by simpa using z
    obtain ⟨o, vs, C, e2, _⟩ := hh.get I1
    have := Heap.lt_size e2
    rw [e, ← hit] at this
    exact Nat.lt_irrefl _ this
  have I4 := block_start (fp := [it]) I3 ok hN fun b hb => by
    obtain rfl : b = it := by simpa using hb
    exact ⟨f3, by rw [hp3, Heap.size_push]; exact Nat.lt_succ_of_lt itlt⟩
  generalize hcl : cellsFrom (s3.heap.objs.size + 1) scope.names (cloFrom X.env.cells scope.names []) = cl at I4 ⊢
  show codeAny _ _ (.compStart (.ListComp elt [⟨tg, iter, ifs, 0⟩] scope pos) 0 (.ref it) (.ref L) (compEnvC scope cl s3.heap.objs.size X.env)) _ _
  have hotB := hh.blk I3 (scope := scope) (cenv := compEnvC scope cl s3.heap.objs.size X.env) notIt
  obtain ⟨pg, pt, pe⟩ := hb s3 (upd H1 L (.lst [])) s3.heap.objs.size cl [it] hotB
  generalize hce : compEnvC scope cl s3.heap.objs.size X.env = ce at I4 hotB pg pt pe ⊢
  have loc : ce.locals = s3.heap.objs.size := by rw [← hce]; rfl
  generalize hH3 : upd H1 L (.lst []) = H3 at I3 I4 hotB pg pt pe w0 f3
  generalize hS4 : ({ s3 with heap := pushCells (s3.heap.push { cls := .type "dict", data := .dict #[] }) scope.names } : Shared) = s4 at I4 ⊢
  have st4 : s4.heap.IsListIter it a 0 := by
    obtain ⟨o, e, r⟩ := st3
    exact ⟨o, by rw [← hS4]; exact pushCells_keeps _ _ _ _ (Heap.get?_push_of_some _ e), r⟩
  have fB : ∀ {τ : St} {H' : Hp} {s' : Shared}, Inv (X.blk s3 H3 scope ce [it]) [] τ H' s' → H' it = none → FpOk (X.blk s3 H3 scope ce [it]) [] H' it := fun {τ H' s'} J n =>
    ⟨n, (J.ok.exf it (List.mem_singleton.mpr rfl)).1, J.ok.exfs it (List.mem_singleton.mpr rfl), .inl (List.mem_singleton.mpr rfl), fun x c e => (J.ok.exf it (List.mem_singleton.mpr rfl)).2 x c e, fun p hp => absurd (show p ∈ ([] : List (Addr × Obj)) ++ [] from hp) (by simp)⟩
  refine codeAny_compStart_list ?loop (wpAny_pyIter_listiter st4 ?loop)
  refine compLoop_any (fun n s' => ∃ i H', Inv (X.blk s3 H3 scope ce [it]) [] (wipe σ (own.map (·.2))) H' s' ∧ s'.heap.IsListIter it a i ∧ H' it = none ∧ Wv i n H') ?turn m0 ⟨0, H3, I4, st4, f3.1, w0⟩
  rintro n s5 ⟨i, H5, I5, st5, n5, w5⟩
  have one : ∀ xs, SqL X.K H5 a xs → _ := fun xs hq => turnH (tg := tg) (E := fun _ _ => False) hotB I5 st5 (fB I5 n5) hq
  rcases turn i n H5 w5 with ⟨⟨xs, hq, hx⟩, qq⟩ | ⟨⟨xs, x, hq, hx⟩, Nx, hNx, step⟩
  · refine thnF (one xs hq) fun r s6 hr => ?_
    cases r with
    | some u =>
      obtain ⟨y, hy, _⟩ := hr
      have := (List.getElem?_eq_some_iff.mp hy).1
      omega
    | none =>
      obtain ⟨_, I6⟩ := hr
      have I7 : Inv X pins σ H5 s6 := I3.call' (ch := [it]) I6.os I6.base I6.hok I6.bare fun b hb => by
        obtain rfl : b = it := by simpa using hb
        exact ⟨f3.2.2.2.1, f3.2.1, f3.2.2.2.2.1, f3.2.2.2.2.2⟩
      have nC : H5 s3.heap.objs.size = none := by have z : H5 ce.locals = none := I6.free; rw [loc] at z; exact z
      obtain ⟨m, hn, _⟩ := I6.loc
      have hn : s6.heap.Ns s3.heap.objs.size m := by have z : s6.heap.Ns ce.locals m := hn; rw [loc] at z; exact z
      refine ⟨m, hn, fun h'' sb => ?_⟩
      obtain ⟨f0, f1, f2, f3', f4, f5⟩ := I3.fpOk (Nat.le_refl _) nC
      exact ⟨.ref L, H5, I7.turned (t' := s6.toks) (fun b o hb e => (sb.2 b hb).trans e) f0 f1 f3' f4 f5, rfl, qq⟩
  · refine thnF (one xs hq) fun r s6 hr => ?_
    cases r with
    | none => rw [hr.1] at hx; cases hx
    | some u =>
      obtain ⟨x', hx', ru, go⟩ := hr
      rw [hx] at hx'
      cases hx'
      refine thnF go fun _ s7 ⟨I7, st7⟩ => ?_
      have I7' := I7.pinned (fp := [it]) (fun b hb => List.mem_singleton.mp hb ▸ fB I7 n5) fun b hb => by
        obtain rfl : b = it := by simpa using hb
        obtain ⟨o, e, c, d⟩ := st7
        exact ⟨o, e, fun v z => by rw [d] at z; cases z⟩
      refine thnF (pg.run _ s7 _ H5 x u _ I7' ru (step x H5 ⟨rfl, fun ys hy => by rw [I5.list_inj hy hq]; exact hx⟩)) fun _ s8 ⟨σ8, H8, I8, hw8, q8⟩ => ?_
      refine thnF (pt.run _ s8 σ8 H8 _ I8 q8) fun b s9 ⟨H9, I9, q9⟩ => ?_
      have close : ∀ {s' : Shared} {H' : Hp}, Inv (X.blk s3 H3 scope ce [it]) ([] ++ pinsAt [it] s7.heap) σ8 H' s' → Nx H' → ∃ m, m < n ∧ ∃ i H', Inv (X.blk s3 H3 scope ce [it]) [] (wipe σ (own.map (·.2))) H' s' ∧ s'.heap.IsListIter it a i ∧ H' it = none ∧ Wv i m H' := fun {s' H'} J nx => by
        obtain ⟨m', hm, w'⟩ := hNx H' nx
        obtain ⟨o7, e7, r7⟩ := st7
        have z := J.pin (it, o7) (List.mem_append_right _ (List.mem_append_right _ (mem_pinsAt (List.mem_singleton.mpr rfl) e7)))
        refine ⟨m', hm, i + 1, H', (J.unpinned (pins := [])).weak (by rw [← hw8, wipe_length]) (fun j v e => ?_), ⟨o7, z.1, r7⟩, z.2.1, w'⟩
        rw [← hw8] at e
        exact (wipe_some e).1
      cases b with
      | false =>
        rw [if_neg Bool.false_ne_true] at q9 ⊢
        exact close I9 q9
      | true =>
        rw [if_pos rfl] at q9 ⊢
        refine thnF (pe.run _ s9 σ8 H9 _ I9 q9) fun z s10 ⟨yv, H10, I10, r10, acc, hD10, hz10, nx⟩ => ?_
        exact app_ok (X := X.blk s3 H3 scope ce [it]) I10 hD10 hz10 r10 fun s11 I11 => close I11 nx
end
end Pd
namespace Pd
open PySem PySem.Spec PyProof.Rows L2
section
variable {T : TB} {W : WX} {X : Cx} {ea : Addr} {en : Str}
theorem EG.tupH {es : List Expr} {us : List Nat} {h : GF (List D)} {k n : Nat} {pos : Pos} (hot : HotS ea en X) (hh : EGs T X es us h) (hn : (assignEach es X.env).length = n) (hst : (assignEach es X.env).findIdx? (·.1) = none) : EG T X (.Tuple es k pos) us (gTp n h) := by
  obtain ⟨th, ph, qh⟩ := hh
  refine ⟨_, pg_tupH hot ph hn hst, fun w δ σ d v Q o s r post => ?_⟩
  cases d with
  | tup l =>
    obtain ⟨p, xs, e1, s1, rl⟩ := r.tupI
    have post' : PostG (rc T X) w us σ Q (if l.length = n then h l δ w.M else none) := post
    by_cases hl : l.length = n
    · rw [if_pos hl] at post'
      exact ⟨p, xs, e1, s1, by rw [rl.length]; exact hl, qh w δ σ l xs Q o s rl post'⟩
    · rw [if_neg hl] at post'
      exact post'.elim
  | _ => exact post.elim
/-- a list to be walked -/
def dLive (f : EF D) : EF Src := fun δ M => (f δ M).bind fun a M1 => match a with
  | .ref n => if (seqOf M1 n).isSome then .ok (.live n) M1 else .bad
  | _ => .bad
theorem EV.lcH {elt tg iter : Expr} {ifs : List Expr} {scope : Scope} {own : List (Str × Nat)} {pos : Pos} {f : EF D} {vs : List Nat} {g : GF D} {tt : EF Bool} {te : EF D}
    (hot : HotS ea en X) (hN : X.N.Nodup) (hi : EV T W X iter f) (ok : BlkOk X.N X.env.scope scope own) (hv : ∀ i ∈ vs, i ∈ own.map (·.2))
    (hb : ∀ (s : Shared) (H : Hp) (C : Addr) (cl : List (Str × Addr)) (fp : List Addr), HotS ea en (X.blk s H scope (compEnvC scope cl C X.env) fp) →
      EG T (X.blk s H scope (compEnvC scope cl C X.env) fp) tg vs g ∧ ETs T WF (X.blk s H scope (compEnvC scope cl C X.env) fp) ifs tt ∧ EV T WF (X.blk s H scope (compEnvC scope cl C X.env) fp) elt te)
    (hs : ∀ x, foldedSetIterable iter X.env x = pure x) : EV T W X (.ListComp elt [⟨tg, iter, ifs, 0⟩] scope pos) (dLc (own.map (·.2)) (dLive f) g tt te) := by
  obtain ⟨ti, pi, qi⟩ := hi
  refine ⟨_, lc_hot (Q := fun _ _ => True) (g := tGc (rc T X) vs g) (tt := tE (rc T X) WF relB tt) (te := tE (rc T X) WF (RelD (rc T X)) te) hot hN pi ok (fun s H C cl fp h => ?_) hs, fun w δ σ Q o s h => comp_core hv (fun w δ σ Q o s h => ?_) o s h⟩
  · obtain ⟨b1, b2, b3⟩ := hb s H C cl fp h
    exact ⟨b1.pg, b2, b3.pe⟩
  · refine qi w δ σ _ o s (h.bind fun a w1 v l1 o1 r1 h1 => ?_)
    cases a with
    | ref n =>
      have h1 : Post (rc T X) W w1 σ (fun w' s J => SrcJ (rc T X) w' s J) Q (if (seqOf w1.M n).isSome then .ok (.live n) w1.M else .bad) := h1
      split at h1
      · rename_i hs
        obtain ⟨hn, ev⟩ := r1.ref
        obtain ⟨l, hl⟩ := Option.isSome_iff_exists.mp hs
        obtain ⟨_, xs, s1, _, _⟩ := o1.seq hl
        exact ⟨_, ev, ⟨xs, s1⟩, h1 w1 _ rfl (.refl _) o1 (src_live hn)⟩
      · exact h1.elim
    | _ => exact h1.elim
/-! ### isinstance of the handled exception -/
def oIsiX (ea : Addr) (en : Str) (isx : Str → Str → Option Bool) (l : List D) (M : Mem) : OV := match l with
  | [.exn a x, .gl y] => if a = ea ∧ x = en then (isx x y).map fun b => (.bl b, M) else none
  | l => oIsi l M
def rIsX (ea : Addr) (en : Str) (X : Cx) : List V → Hp → VK → Prop := fun xs H Q => ∃ (C D : Addr) (b : Bool), xs = [.ref ea, .ref D] ∧ X.mg en = some (.ref C) ∧ PySem.W.kitOne X.K (.ref C) (.ref D) = some b ∧ Q (.bl b) H
theorem call_isX (hot : HotS ea en X) : CallR X (.builtin "isinstance") (rIsX ea en X) := by
  intro pins s σ H xs us Q I r ⟨C, D, b, e0, hC, hk, q⟩
  subst e0
  obtain ⟨u1, u2, rfl, r1, r2⟩ := vals2 r
  obtain rfl : u1 = Value.ref ea := r1
  obtain rfl : u2 = Value.ref D := r2
  obtain ⟨o, vs, C', g1, g2, g3, g4, g5, g6, x⟩ := hot.get I
  rw [hC] at g4
  cases g4
  have J : PySem.W.InstAt s.heap ea o C none := by
    obtain ⟨oc, od, oda, osl⟩ := o
    dsimp only at g2 g5 g6
    subst g2 g5 g6
    exact ⟨g1, rfl, rfl, trivial⟩
  exact PySem.W.kia_one (PySem.W.handS_kitx_exc x.hg x.hk x.hs x.hd x.ha x.hn x.ht x.hm) I.kIn J hk (fun z => nomatch z) fun tk => ⟨.bl b, H, I.kept (t' := tk) fun _ _ z => z, rfl, q⟩
theorem bl_isX {isx : Str → Str → Option Bool} (hx : ∀ x y b C D, isx x y = some b → X.mg x = some (.ref C) → X.mg y = some (.ref D) → PySem.W.kitOne X.K (.ref C) (.ref D) = some b) (hg : ∃ C, X.mg en = some (.ref C))
    (hgl : ∀ x y b, isx x y = some b → ∃ D, X.mg y = some (.ref D)) : BlOk T X (oIsiX ea en isx) (fun xs H Q => rIsi X.K xs H Q ∨ rIsX ea en X xs H Q) := fun w l xs Q o r h => by
  unfold oIsiX at h
  split at h
  · rename_i a x y
    by_cases hax : a = ea ∧ x = en
    · rw [if_pos hax] at h
      obtain ⟨rfl, rfl⟩ := hax
      cases c : isx x y with
      | none => rw [c] at h; exact h.elim
      | some b =>
        rw [c] at h
        refine .inr ?_
        obtain ⟨C, hC⟩ := hg
        obtain ⟨D, hD⟩ := hgl x y b c
        obtain ⟨v1, v2, e, r1, r2⟩ := RelL.two r
        unfold RelD at r1 r2
        obtain ⟨u, hu, ru⟩ := r2
        have hu : X.mg y = some u := hu
        rw [hD] at hu
        cases hu
        have ev : v2 = .ref D := by
          cases v2 with
          | ref b => exact congrArg V.ref (Value.ref.inj ru).symm
          | _ => first | (obtain ⟨t, z⟩ := ru; cases z; done) | cases ru
        subst ev
        exact ⟨C, D, b, by rw [e, r1], hC, hx x y b C D c hC hD, PostV.val h o .mkBl⟩
    · rw [if_neg hax] at h
      exact h.elim
  · exact .inl (bl_isi w _ xs Q o r h)
/-! ### sep.join -/
def strsD : List D → Option (List Str)
  | [] => some []
  | .str s :: l => (strsD l).map (s :: ·)
  | _ => none
theorem strsD_ok {R : RC} {w : Wd} : ∀ {l : List D} {ys : List Str} {xs : List V}, strsD l = some ys → RelL R w l xs → xs = ys.map V.str
  | [], ys, xs, h, r => by
    unfold strsD at h
    cases h
    unfold RelL at r
    exact r
  | d :: l, ys, xs, h, r => by
    unfold RelL at r
    obtain ⟨x, q, e, h1, h2⟩ := r
    cases d with
    | str s =>
      unfold strsD at h
      cases c : strsD l with
      | none => rw [c] at h; cases h
      | some zs =>
        rw [c] at h
        cases h
        unfold RelD at h1
        rw [e, h1, strsD_ok c h2]
        rfl
    | _ => unfold strsD at h; cases h
def oJoin (a : D) (l : List D) (M : Mem) : OV := match a, l with
  | .str s, [d] => match (match d with
      | .tup m => some m
      | .ref n => seqOf M n
      | _ => none) with
    | some m => match strsD m with
      | some ys => if (ys.map (·.length)).sum + ys.length * s.length ≤ 16777216 then some (.str (Txt.join s ys), M) else none
      | none => none
    | none => none
  | _, _ => none
theorem mk_join : MtOk T X oJoin (fun x xs H Q => ∃ a p, ∃ ys : List Str, x = .str a ∧ xs = [.ref p] ∧ (SqL X.K H p (ys.map V.str) ∨ SqT X.K H p (ys.map V.str)) ∧
    (ys.map (·.length)).sum + ys.length * a.length ≤ 16777216 ∧ Q (.str (Txt.join a ys)) H) := fun w a l x xs Q o ra rl h => by
  unfold oJoin at h
  split at h
  · rename_i s d
    obtain ⟨y, e, ry⟩ := rl.one
    unfold RelD at ra
    split at h
    · rename_i m hm
      split at h
      · rename_i ys hys
        split at h
        · rename_i hz
          have q : Q (.str (Txt.join s ys)) w.H := PostV.val h o (by unfold RelD; rfl)
          cases d with
          | tup k =>
            cases hm
            obtain ⟨p, zs, e1, s1, r1⟩ := ry.tupI
            subst e1
            rw [strsD_ok hys r1] at s1
            exact ⟨s, p, ys, ra, e, .inr s1, hz, q⟩
          | ref n =>
            obtain ⟨_, e1⟩ := ry.ref
            obtain ⟨_, zs, s1, r1, _⟩ := o.seq (show seqOf w.M n = some m from hm)
            rw [strsD_ok hys r1] at s1
            exact ⟨s, w.ρ n, ys, ra, by rw [e, e1], .inl s1, hz, q⟩
          | _ => cases hm
        · exact h.elim
      · exact h.elim
    · exact h.elim
  · exact h.elim
end
end Pd
namespace Pd
open PySem PySem.Spec PyProof.Rows L2
/-! ### x[::-1] of a tuple, of a list -/
section
variable {prog : Program} {w : World} {A : Around} {E : Value → Shared → Prop} {s : Shared}
theorem rv_adjust (n : Nat) : Builtin.Slice.sliceAdjust none none (-1) (n : Int) = ((n : Int) - 1, -1) := by
  unfold Builtin.Slice.sliceAdjust
  simp
theorem rv_places (n : Nat) : Builtin.Slice.slicePlaces ((n : Int) - 1) (-1) (-1) = n := by
  unfold Builtin.Slice.slicePlaces
  have h1 : ¬ ((-1 : Int) > 0) := by decide
  simp only [h1, if_false]
  split
  · rw [show (- -1 : Int) = 1 by decide, Int.ediv_one]
    omega
  · omega
theorem rv_applied {sl : Addr} {vs : Value} {n : Nat} {Q : Int × Int × Nat → Shared → Prop} (hs : s.heap.IsSliceOf sl .none .none vs) (ps : IsPart vs (some (-1))) (h : Q ((n : Int) - 1, -1, n) s) :
    wpAny (model prog w) A (Builtin.Slice.sliceApplied (.ref sl) (pure (n : Int))) Q E s := by
  obtain ⟨os, hos, hcs, hds⟩ := id hs
  unfold Builtin.Slice.sliceApplied Builtin.Slice.sliceFields
  refine wpAny_bind (wpAny_bind (wpAny_field hos hds (x := .none) rfl (wpAny_bind (wpAny_field hos hds (x := .none) rfl (wpAny_bind (wpAny_field hos hds (x := vs) rfl (wpAny_pure ?_)))))))
  refine wpAny_bind (HT.slicePart_ ps ?_)
  show wpAny _ _ (if ((-1 : Int) == 0) = true then _ else _) _ _ s
  rw [if_neg (by decide)]
  refine wpAny_bind (HT.slicePart_ .none (wpAny_bind (HT.slicePart_ .none (wpAny_bind (wpAny_pure ?_)))))
  show wpAny _ _ (match Builtin.Slice.sliceAdjust none none (-1) (n : Int) with | (lo, hi) => pure (lo, (-1 : Int), Builtin.Slice.slicePlaces lo hi (-1))) _ _ s
  rw [rv_adjust]
  show wpAny _ _ (pure ((n : Int) - 1, (-1 : Int), Builtin.Slice.slicePlaces ((n : Int) - 1) (-1) (-1))) _ _ s
  rw [rv_places]
  exact wpAny_pure h
theorem rv_pick (xs : Array Value) : ((List.range xs.size).filterMap fun (m : Nat) => xs[((xs.size : Int) - 1 + (m : Int) * -1).toNat]?).toArray = xs.toList.reverse.toArray := by
  congr 1
  have e : ∀ l : List Nat, (∀ m ∈ l, m < xs.size) → (l.filterMap fun (m : Nat) => xs[((xs.size : Int) - 1 + (m : Int) * -1).toNat]?) = (l.map fun k => xs.size - 1 - k).filterMap fun m => xs[m]? := fun l => by
    induction l with
    | nil => intro _; rfl
    | cons m l ih =>
      intro hm
      have h := hm m List.mem_cons_self
      have e1 : ((xs.size : Int) - 1 + (m : Int) * -1).toNat = xs.size - 1 - m := by omega
      rw [List.filterMap_cons, List.map_cons, List.filterMap_cons, e1, ih fun z hz => hm z (List.mem_cons_of_mem _ hz)]
  rw [e _ fun m hm => List.mem_range.mp hm, PySem.W.krv_range, List.filterMap_reverse, PySem.W.krv_all]
theorem rv_tuple {t sl : Addr} {items : Array Value} {vs : Value} {Q : Value → Shared → Prop} (ht : IsTup s.heap t items) (hs : s.heap.IsSliceOf sl .none .none vs) (ps : IsPart vs (some (-1)))
    (h : Q (.ref s.heap.objs.size) { s with heap := s.heap.push { cls := .type "tuple", data := .seq items.toList.reverse.toArray } }) (hsz : items.size ≤ sizeLine) : wpAny (model prog w) A (getItem (.ref t) (.ref sl)) Q E s := by
  have htake : sizeOk (.seq items.toList.reverse.toArray) := by
    show items.toList.reverse.toArray.size ≤ sizeLine
    rw [List.size_toArray, List.length_reverse, Array.length_toList]
    exact hsz
  obtain ⟨os, hos, hcs, hds⟩ := id hs
  have hTs : s.TypeIs (.ref sl) "slice" := ⟨os, hos, hcs⟩
  unfold getItem
  try with_reducible refine wpAny_holding ?_
  first | refine wpAny_bind (wpAny_pure ?_) | skip
  refine wpAny_bind (wpAny_sequenceKey ht.typeIs (by decide) ?_)
  refine wpAny_bind (wpAny_callSpecial?_slot (name := Str.ofString "__getitem__") ht.typeIs PyProof.Rows.slot_tuple_getitem (wpAny_call_entry PyProof.Rows.slot_tuple_getitem ht.typeIs PyProof.Rows.entry_tuple_getitem ?_ (PyProof.Rows.args_tuple_getitem _ _)))
  show wpAny _ _ (Builtin.Tuple.tupleItemsOf (.ref t) >>= _) _ _ s
  refine wpAny_bind (tupleItemsOf_ ht ?_)
  refine wpAny_bind (wpAny_typeOf hTs ?_)
  rw [if_pos (by decide)]
  refine wpAny_bind (rv_applied hs ps ?_)
  have hno : ¬ (((items.size : Int) - 1 == 0 && (-1 : Int) == 1 && items.size == items.size) = true) := by
    intro q
    rw [Bool.and_eq_true, Bool.and_eq_true] at q
    exact absurd q.1.2 (by decide)
  show wpAny _ _ (if ((items.size : Int) - 1 == 0 && (-1 : Int) == 1 && items.size == items.size) = true then _ else _) _ _ s
  rw [if_neg hno, rv_pick]
  first
    | exact wpAny_bind (m := Builtin.Tuple.tupleExact _) (wpAny_newObj_type (wpAny_pure ⟨_, rfl, wpAny_pure h⟩) htake)
    | exact wpAny_bind (m := Builtin.Tuple.tupleExact _) (wpAny_newObj_type (wpAny_bind (wpAny_pure (wpAny_pure ⟨_, rfl, wpAny_pure h⟩))) htake)
    | exact wpAny_bind (wpAny_bind (m := Builtin.Tuple.tupleExact _) (wpAny_newObj_type (wpAny_pure (wpAny_pure ⟨_, rfl, wpAny_pure h⟩)) htake))
    | exact wpAny_bind (wpAny_bind (m := Builtin.Tuple.tupleExact _) (wpAny_newObj_type (wpAny_pure ⟨_, rfl, wpAny_pure h⟩) htake))
end
theorem vals_reverse : ∀ {xs : List V} {its : List Value}, Vals xs its → Vals xs.reverse its.reverse
  | _, _, .nil => .nil
  | _, _, .cons r rr => by
    rw [List.reverse_cons, List.reverse_cons]
    exact (vals_reverse rr).append (.cons r .nil)
def rRev (K : PySem.W.Frag) : V → Hp → VK → Prop := fun x H Q => ∃ a xs, x = .ref a ∧ ((SqT K H a xs ∧ ∀ p, H p = none → Q (.ref p) (upd H p (.tup xs.reverse))) ∨ (SqL K H a xs ∧ ∀ p, H p = none → Q (.ref p) (upd H p (.lst xs.reverse))))
def tRev (K : PySem.W.Frag) (te ts : TE) : TE := fun σ H Q => te σ H fun x H1 => tPart ts σ H1 fun o H2 => o = some (-1) ∧ rRev K x H2 Q
theorem pe_rev {X : Cx} {e st : Expr} {te ts : TE} {pos p2 : Pos} (he : PE X e te) (hst : PE X st ts) : PE X (.Subscript e (.Slice none none (some st) p2) pos) (tRev X.K te ts) := by
  refine ⟨fun pins s σ H Q I h => ?_⟩
  refine Subscript_ (thn (he.run pins s σ H _ I h) fun v s1 ⟨x, H1, I1, r1, q1⟩ => ?_)
  refine wpAny_Slice ?_
  rw [evalPart_none]
  refine wpAny_pure (wpAny_pure ?_)
  refine thn ((po_some hst).run pins s1 σ H1 _ I1 q1) fun vs s3 ⟨o, H3, I3, ps, eo, a, xs, ex, q3⟩ => ?_
  subst eo ex
  cases r1
  have I4 : Inv X pins σ H3 { s3 with heap := s3.heap.push { cls := .type "slice", data := .fields #[.none, .none, vs] } } := I3.kept (t' := s3.toks) fun b ob q => Heap.get?_push_of_some _ q
  have hsl : Heap.IsSliceOf (s3.heap.push { cls := .type "slice", data := .fields #[.none, .none, vs] }) s3.heap.objs.size .none .none vs := Heap.IsSliceOf.new ..
  have fin : ∃ T id, typeLookup (.type T) "__getitem__" = pure (some (.builtin id)) ∧ Shared.TypeIs { s3 with heap := s3.heap.push { cls := .type "slice", data := .fields #[.none, .none, vs] } } (.ref a) T ∧
      wpAny (model X.prog X.w) X.A (getItem (.ref a) (.ref s3.heap.objs.size)) (L2.EP X pins σ Q) X.xe { s3 with heap := s3.heap.push { cls := .type "slice", data := .fields #[.none, .none, vs] } } := by
    rcases q3 with ⟨hx, q⟩ | ⟨hx, q⟩
    · obtain ⟨its, r, ht, hz⟩ := I4.tuple hx
      have hlen := r.length
      refine ⟨"tuple", _, PyProof.Rows.slot_tuple_getitem.lookup, ht.typeIs, ?_⟩
      refine rv_tuple ht hsl ps ?_ (by rw [List.size_toArray]; omega)
      refine ⟨.ref _, _, I4.laid (t' := s3.toks) (o := .tup xs.reverse) (fun b ob q => Heap.get?_push_of_some _ q) (Nat.le_refl _) ?_, rfl, q _ (I4.hok.fresh (Nat.le_refl _))⟩
      exact ⟨by rw [List.length_reverse]; exact hz, _, vals_reverse r, IsTup.new _ _⟩
    · obtain ⟨its, r, ht, hz⟩ := I4.list hx
      have hlen := r.length
      refine ⟨"list", _, slot_list_getitem.lookup, ht.isList.typeIs, ?_⟩
      refine wpAny_getItem_list_slice ht.isList hsl .none .none ps (by simp) ?_ (by rw [List.size_toArray]; omega)
      rw [PySem.W.krv_pick]
      refine ⟨.ref _, _, I4.laid (t' := s3.toks) (o := .lst xs.reverse) (fun b ob q => Heap.get?_push_of_some _ q) (Nat.le_refl _) ?_, rfl, q _ (I4.hok.fresh (Nat.le_refl _))⟩
      exact ⟨by rw [List.length_reverse]; exact hz, _, 0, vals_reverse r, Heap.get?_push_size _ rfl⟩
  obtain ⟨T, id, hT, ht, hg⟩ := fin
  show wpAny (model X.prog X.w) X.A (subscriptTail e (.Slice none none (some st) p2) (.ref a) (.ref s3.heap.objs.size)) (L2.EP X pins σ Q) X.xe { s3 with heap := s3.heap.push { cls := .type "slice", data := .fields #[.none, .none, vs] } }
  exact tail_any (ops := [.ref a, .ref s3.heap.objs.size]) ht hT hg (by with_unfolding_all rfl)
/-- x[::-1] -/
def oRv (a b : D) (M : Mem) : OV := match b with
  | .int i => if i = -1 then (match a with
    | .tup l => some (.tup l.reverse, M)
    | .ref n => (seqOf M n).map fun l => (.ref M.length, M ++ [.lst l.reverse])
    | _ => none) else none
  | _ => none
theorem EV.rev {T : TB} {W : WX} {X : Cx} {e st : Expr} {f g : EF D} {pos p2 : Pos} (ha : EV T W X e f) (hb : EV T W X st g) : EV T W X (.Subscript e (.Slice none none (some st) p2) pos) (dBin oRv f g) := by
  obtain ⟨ta, pa, qa⟩ := ha
  obtain ⟨tb, pb, qb⟩ := hb
  refine ⟨_, pe_rev pa pb, fun w δ σ Q o s h => ?_⟩
  refine qa w δ σ _ o s (h.bind fun d1 w1 v1 l1 o1 r1 h1 => ?_)
  refine qb w1 δ σ _ o1 (s.mono l1) (h1.bind fun d2 w2 v2 l2 o2 r2 h2 => ?_)
  have rd := RelD.mono l2 _ _ r1
  have h4 : PostV (rc T X) w2 Q (oRv d1 d2 w2.M) := post_ofV h2
  cases d2 with
  | int i =>
    unfold RelD at r2
    subst r2
    unfold oRv at h4
    dsimp only at h4
    split at h4
    · rename_i hi
      subst hi
      refine ⟨-1, rfl, rfl, ?_⟩
      cases d1 with
      | tup l =>
        obtain ⟨p, xs, e1, s1, rl⟩ := rd.tupI
        exact ⟨p, xs, e1, .inl ⟨s1, PostV.tup h4 o2 rl.rev⟩⟩
      | ref n =>
        obtain ⟨_, e1⟩ := rd.ref
        have h5 : PostV (rc T X) w2 Q ((seqOf w2.M n).map fun l => (.ref w2.M.length, w2.M ++ [.lst l.reverse])) := h4
        cases c : seqOf w2.M n with
        | none => rw [c] at h5; exact h5.elim
        | some l =>
          rw [c] at h5
          obtain ⟨_, xs, s1, rl, _⟩ := o2.seq c
          exact ⟨_, xs, e1, .inr ⟨s1, PostV.lst h5 o2 rl.rev⟩⟩
      | _ => exact h4.elim
    · exact h4.elim
  | _ => exact h4.elim
end Pd
namespace Pd
open PySem PySem.Spec PyProof.Rows L2
/-! ### looks at the syntax -/
def nst : Expr → Bool
  | .Starred .. => false
  | _ => true
theorem nst_cons {e : Expr} {es : List Expr} {env : Env} (h : nst e = true) : starEach (e :: es) env = (false, eval e env) :: starEach es env := by
  cases e <;> first | rfl | cases h
theorem nst_any {pos : Pos} {env : Env} : ∀ {es : List Expr}, es.all nst = true → (backTo pos (starEach es env)).any (·.1) = false
  | [], _ => rfl
  | e :: es, h => by
    rw [List.all_cons, Bool.and_eq_true] at h
    rw [nst_cons h.1]
    show (false || (backTo pos (starEach es env)).any (·.1)) = false
    rw [Bool.false_or]
    exact nst_any h.2
theorem nst_len {env : Env} : ∀ {es : List Expr}, (starEach es env).length = es.length
  | [] => rfl
  | e :: es => by
    have ih := nst_len (env := env) (es := es)
    cases e <;> (show (starEach es env).length + 1 = es.length + 1; rw [ih])
theorem nst_few {cpos : Pos} {env : Env} {e : Expr} {es : List Expr} (h : (e :: es).all nst = true) (hl : es.length < 20) : ((backTo cpos (starEach (e :: es) env)).all (fun x => !x.1) && (backToKw cpos (keywordEach [] env)).all (fun x => x.1.isSome)
      && decide ((e :: es).length + ([] : List Keyword).length + (if ([] : List Keyword).isEmpty then 0 else 1) < 30)) = true := by
  have a : (backTo cpos (starEach (e :: es) env)).all (fun x => !x.1) = true := by
    have := nst_any (pos := cpos) (env := env) h
    rw [List.all_eq_true]
    intro x hx
    rw [List.any_eq_false] at this
    have := this x hx
    cases q : x.1
    · rfl
    · exact absurd q this
  have b : decide ((e :: es).length + ([] : List Keyword).length + (if ([] : List Keyword).isEmpty then 0 else 1) < 30) = true := by
    apply decide_eq_true
    show es.length + 1 + 0 + 0 < 30
    omega
  rw [a, b]
  rfl
def plainT : Expr → Bool
  | .UnaryOp .Not _ _ => false
  | .BoolOp .. => false
  | .IfExp .. => false
  | .Compare .. => false
  | _ => true
theorem plainT_ok {e : Expr} {env : Env} (h : plainT e = true) : ∀ whole, isTrue e env whole = (do let v ← whole; standAt e.pos; holding [v] (truthy v)) := by
  intro whole
  cases e <;> first | rfl | cases h | skip
  rename_i op a pos
  cases op <;> first | rfl | cases h
def plainX : Expr → Bool
  | .Slice .. => false
  | _ => true
theorem plainX_ok {e : Expr} (h : plainX e = true) : PlainIx e := by
  intro o i
  cases e <;> first | rfl | cases h
def plainB : Expr → Bool
  | .Call _ [] [] _ => false
  | _ => true
theorem plainB_ok {e : Expr} {a : Str} {env : Env} {w : Sem Value} (h : plainB e = true) : attributeBase e a env w = w := by
  cases e <;> first | rfl | skip
  rename_i f args kws pos
  cases args with
  | cons b l => cases f <;> rfl
  | nil =>
    cases kws with
    | nil => cases h
    | cons b l => cases f <;> rfl
def notSet : Expr → Bool
  | .Set .. => false
  | _ => true
theorem notSet_ok {e : Expr} {env : Env} (h : notSet e = true) : ∀ x, foldedSetIterable e env x = pure x := by
  intro x
  cases e <;> first | rfl | cases h
theorem nomark_ok {e : Expr} {op : CmpOp} (h : notSet e = true) : behindInMarks op e = false := by
  cases e <;> first | rfl | cases h
def notComp : Expr → Bool
  | .ListComp .. => false
  | .SetComp .. => false
  | .DictComp .. => false
  | _ => true
theorem notComp_ok {e : Expr} {t : Option Expr} {l : Nat} {env : Env} (h : notComp e = true) : swapsWith e t l env = pure false := by
  cases e <;> first | rfl | cases h
def notTup : Expr → Bool
  | .Tuple .. => false
  | .List .. => false
  | _ => true
theorem noswap_t {tg e : Expr} {env : Env} (h : notTup tg = true) : swappedStores [tg] e env = pure none := by
  cases tg <;> first | rfl | cases h
theorem noswap_v {tg e : Expr} {env : Env} (h : notTup e = true) : swappedStores [tg] e env = pure none := by
  cases e <;> first | (cases tg <;> rfl) | cases h
theorem asg_one {tg : Expr} {env : Env} (h : nst tg = true) : (assignEach [tg] env).map (·.2) = [assign tg env] := by
  cases tg <;> first | rfl | cases h
theorem asg_cons {tg : Expr} {es : List Expr} {env : Env} (h : nst tg = true) : (assignEach (tg :: es) env).map (·.2) = assign tg env :: (assignEach es env).map (·.2) := by
  cases tg <;> first | rfl | cases h
theorem asg_len {env : Env} : ∀ {es : List Expr}, (assignEach es env).length = es.length
  | [] => rfl
  | e :: es => by
    have ih := asg_len (env := env) (es := es)
    cases e <;> (show (assignEach es env).length + 1 = es.length + 1; rw [ih])
theorem asg_star {env : Env} : ∀ {es : List Expr}, es.all nst = true → (assignEach es env).findIdx? (·.1) = none
  | [], _ => rfl
  | e :: es, h => by
    rw [List.all_cons, Bool.and_eq_true] at h
    have ih := asg_star (env := env) h.2
    have e1 : ∃ f, assignEach (e :: es) env = (false, f) :: assignEach es env := by
      cases e <;> first | exact ⟨_, rfl⟩ | cases h.1
    obtain ⟨f, e1⟩ := e1
    rw [e1, List.findIdx?_cons, ih]
    rfl
/-- the names that swapped stores would take -/
def swNames (sc : Scope) (ts : List Expr) : List Str := ts.filterMap fun
  | .Name id pos => if sc.names.lookup id == some .local && pos.line == (ts.head?.map (·.pos.line)).getD 0 then some id else none
  | _ => none
def isSt (e : Expr) : Bool := match e with
  | .Starred .. => true
  | _ => false
theorem isSt_nst (e : Expr) : isSt e = !nst e := by cases e <;> rfl
theorem sw_form {ts vs : List Expr} {k k2 p p2} {env : Env} : swappedStores [.Tuple ts k p] (.Tuple vs k2 p2) env =
    (if (!(ts.length == 2 || ts.length == 3) || vs.length != ts.length || env.blockKind != .function) = true then pure none else
     if vs.any isSt = true then pure none else
     if ((swNames env.scope ts).length != ts.length || (swNames env.scope ts).eraseDups.length != (swNames env.scope ts).length) = true then pure none else
     if vs.all (foldedForSure 8) = true then pure none else
     if vs.all (constantsAlone 8) = true then (do
       let r ← unsupported "assign.tuple-of-constant-expressions:order-of-the-stores"
       (fun (_ : PUnit) => pure (some (swNames env.scope ts))) r) else pure (some (swNames env.scope ts))) := by rfl
def swNone (sc : Scope) (ts vs : List Expr) : Bool := !(ts.length == 2 || ts.length == 3) || vs.length != ts.length || (swNames sc ts).length != ts.length || vs.all (foldedForSure 8)
theorem swNone_ok {ts vs : List Expr} {k k2 p p2} {env : Env} (h : swNone env.scope ts vs = true) : swappedStores [.Tuple ts k p] (.Tuple vs k2 p2) env = pure none := by
  rw [sw_form]
  unfold swNone at h
  split
  · rfl
  · rename_i c1
    split
    · rfl
    · split
      · rfl
      · rename_i c3
        have c4 : vs.all (foldedForSure 8) = true := by
          simp only [Bool.or_eq_true, not_or] at c1 c3 h
          rcases h with ((h | h) | h) | h
          · exact absurd h c1.1.1
          · exact absurd h c1.1.2
          · exact absurd h c3.1
          · exact h
        rw [if_pos c4]
def swPair (sc : Scope) (x y : Str) (px py : Pos) (a b : Expr) : Bool := decide (sc.kind = .function) && decide (sc.names.lookup x = some .local) && decide (sc.names.lookup y = some .local) && (px.line == py.line) && decide (x ≠ y) && nst a && nst b && !([a, b].all (foldedForSure 8)) && !([a, b].all (constantsAlone 8))
theorem swPair_ok {x y : Str} {px py : Pos} {a b : Expr} {k k2 p p2} {env : Env} (h : swPair env.scope x y px py a b = true) : swappedStores [.Tuple [.Name x px, .Name y py] k p] (.Tuple [a, b] k2 p2) env = pure (some [x, y]) := by
  unfold swPair at h
  simp only [Bool.and_eq_true, decide_eq_true_eq, Bool.not_eq_true'] at h
  obtain ⟨⟨⟨⟨⟨⟨⟨⟨h0, h1⟩, h2⟩, h3⟩, h4⟩, h5⟩, h6⟩, h7⟩, h8⟩ := h
  have hbk : env.blockKind = .function := by
    unfold Env.blockKind
    rw [h0]
    rfl
  have k1 : (env.scope.names.lookup x == some .local) = true := beq_iff_eq.mpr h1
  have k2' : (env.scope.names.lookup y == some .local) = true := beq_iff_eq.mpr h2
  have l2 : (py.line == px.line) = true := by
    rw [beq_iff_eq] at h3 ⊢
    exact h3.symm
  have e : swNames env.scope [Expr.Name x px, Expr.Name y py] = [x, y] := by
    simp only [swNames, List.filterMap_cons, List.filterMap_nil, k1, k2', List.head?_cons, Option.map_some, Option.getD_some, Expr.pos, beq_self_eq_true, Bool.and_self, if_true, l2]
  have ed : ([x, y] : List Str).eraseDups = [x, y] := by
    have : (y == x) = false := beq_eq_false_iff_ne.mpr (Ne.symm h4)
    simp [List.eraseDups, List.eraseDupsBy, List.eraseDupsBy.loop, this]
  have st : [a, b].any isSt = false := by
    simp only [List.any_cons, List.any_nil, isSt_nst, h5, h6]
    rfl
  rw [sw_form, if_neg (by rw [hbk]; simp), if_neg (by rw [st]; exact Bool.false_ne_true), e, if_neg (by rw [ed]; simp), if_neg (by rw [h7]; exact Bool.false_ne_true), if_neg (by rw [h8]; exact Bool.false_ne_true)]
theorem asg_sub {o i : Expr} {pos : Pos} {env : Env} (h : plainX i = true) : ∀ v, assign (.Subscript o i pos) env v = (do
      let ov ← holding [v] (eval o env)
      let iv ← holding [v, ov] (eval i env)
      standAt pos
      holding [v, ov, iv] (setItem ov iv v)
      release [v, ov, iv] []) := by
  intro v
  cases i <;> first | rfl | cases h
/-! ### the static side -/
inductive GD where
  | fn (n : Nat) (φ : List D → Mem → Res D)
  | int (i : Int) | str (s : Str) | blt | val | exc
  | hof (F : Res D → Mem → Res D)
  | tup (l : List Str)
structure SC where
  N : List Str
  sc : Scope
  fn : Str → Bool
  hot : Bool
  lv : Nat
  up : Nat
  he : Addr
  hn : Str
  isx : Str → Str → Option Bool
  G : List (Str × GD)
def GdOk (T : TB) (lv : Nat) (P : Program) (w : World) (K : PySem.W.Frag) (mg : Str → Option Value) (base : Heap) (x : Str) : GD → Prop
  | .fn n φ => ∃ f fd k ps, k ≤ lv ∧ mg x = some (.ref f) ∧ FnOk P w K mg base (L2N.CX P w) k f fd ps (spOf ⟨K, mg, T⟩ n φ) ∧ PySem.W.keepIn K (.ref f) = true ∧ Binds K fd ps []
  | .int i => ∃ t, mg x = some (.int i t)
  | .str s => ∃ t, mg x = some (.str s t)
  | .blt => mg x = none
  | .val => ∃ a, mg x = some (.ref a)
  | .exc => ∃ C, mg x = some (.ref C) ∧ PySem.W.excIn K C He.veBase "ValueError.__new__" = true ∧ PySem.W.keepIn K (.ref C) = true ∧ PySem.W.subIn K (.ref C) (.type "BaseException") = some true ∧ PySem.W.typeIn K (.ref C) = some (.type "type")
  | .hof F => HofOk T lv P w K mg base x F
  | .tup l => ∃ a, mg x = some (.ref a) ∧ ∀ H : Hp, SqT K H a (l.map V.str)
theorem GdOk.mono {T : TB} {lv lv' : Nat} {P : Program} {w : World} {K : PySem.W.Frag} {mg : Str → Option Value} {base : Heap} {x : Str} (l : lv ≤ lv') : ∀ {g : GD}, GdOk T lv P w K mg base x g → GdOk T lv' P w K mg base x g
  | .fn _ _, ⟨f, fd, k, ps, h, r⟩ => ⟨f, fd, k, ps, Nat.le_trans h l, r⟩
  | .int _, h => h
  | .str _, h => h
  | .blt, h => h
  | .val, h => h
  | .exc, h => h
  | .hof _, h => HofOk.mono h l
  | .tup _, h => h
structure Mt (c : SC) (T : TB) (W : WX) (X : Cx) : Prop where
  N : X.N = c.N
  nd : X.N.Nodup
  sc : X.env.scope = c.sc
  fn : ∀ x, c.fn x = true → X.fn x = true
  un : X.A.units + 65 < cLine
  gl : ∀ x g, c.G.lookup x = some g → GdOk T c.lv X.prog X.w X.K X.mg X.base x g
  cool : c.hot = false → X.calm = true ∧ Room (c.lv + c.up) X.A ∧ L2N.Takes X W ∧ PassesOwn (model X.prog X.w) X.A X.env X.xe
  hots : c.hot = true → HotS c.he c.hn X
  isx : ∀ x y b, c.isx x y = some b → ∃ D, X.mg y = some (.ref D) ∧ ∀ C, X.mg x = some (.ref C) → PySem.W.kitOne X.K (.ref C) (.ref D) = some b
  lam : c.up = 2 → ∃ cc P, X.env.code = .ref cc ∧ LamX.TabB X.base X.mg cc P ∧ (P, X.env.qual ++ "<lambda>") ∈ T.tabs ∧ ∀ p ∈ T.tabs, p.1 = P → p.2 = X.env.qual ++ "<lambda>"
def ix (N : List Str) (x : Str) : Option Nat := N.findIdx? (· == x)
theorem ix_ok : ∀ {N : List Str} {x : Str} {i : Nat}, ix N x = some i → N[i]? = some x := by
  intro N x i h
  obtain ⟨hlt, he, _⟩ := List.findIdx?_eq_some_iff_getElem.mp h
  rw [List.getElem?_eq_getElem hlt]
  exact congrArg some (beq_iff_eq.mp he)
def okName (x : Str) : Bool := !(x == ("__debug__" : Str)) && !(x == ("__classdict__" : Str)) && decide (x ≠ "__name__")
theorem okName_ok {x : Str} (h : okName x = true) : (x == ("__debug__" : Str)) = false ∧ (x == ("__classdict__" : Str)) = false ∧ x ≠ "__name__" := by
  unfold okName at h
  simp only [Bool.and_eq_true, Bool.not_eq_true', decide_eq_true_eq] at h
  exact ⟨h.1.1, h.1.2, h.2⟩
/-! ### the compile function -/
structure Cp where
  E : SC → Expr → EF D
  B : SC → Expr → EF Bool
  A : SC → List Expr → EF (List D)
  I : SC → Bool → Expr → EF Src
  Ss : SC → List Stmt → DS
def cpBad : Cp := ⟨fun _ _ => dBad, fun _ _ => dBad, fun _ _ => dBad, fun _ _ _ => dBad, fun _ _ => sBad⟩
def nameE (c : SC) (x : Str) : EF D := if okName x = true then (match c.sc.names.lookup x with
    | some .globalImplicit => match c.G.lookup x with
      | some (.int i) => dC (.int i)
      | some (.str s) => dC (.str s)
      | some .blt => if x = "int" ∨ x = "bool" ∨ x = "str" ∨ x = "tuple" ∨ x = "list" then dC (.ty (if x = "int" then "int" else if x = "bool" then "bool" else if x = "str" then "str" else if x = "tuple" then "tuple" else "list")) else dBad
      | some (.fn _ _) => dC (.gl x)
      | some (.hof _) => dBad
      | some (.tup l) => dC (.tup (l.map .str))
      | some .val => dC (.gl x)
      | some .exc => dC (.gl x)
      | none => dBad
    | some .local => (match ix c.N x with
      | some i => dVar i
      | none => dBad)
    | some .cell => (match ix c.N x with
      | some i => dVar i
      | none => dBad)
    | some .free => (match ix c.N x with
      | some i => dVar i
      | none => dBad)
    | _ => dBad) else dBad
def binE (op : Operator) (f g : EF D) : EF D := match op with
  | .Add => dBin oAdd f g
  | .Sub => dBin oSub f g
  | .Mult => dBin oMul f g
  | .Mod => dBin oMod f g
  | .FloorDiv => dBin oFdiv f g
  | .Pow => dBin oPow f g
  | _ => dBad
def cmpO (op : CmpOp) : Option (D → D → Mem → OV) := match op with
  | .Eq => some oEq
  | .NotEq => some oNe
  | .Lt => some oLt
  | .LtE => some oLe
  | .Gt => some oGt
  | .GtE => some oGe
  | .Is => some oIsN
  | .IsNot => some oNotN
  | .In => some oIn
  | .NotIn => some oNin
def andE (f : Expr → EF D) : List Expr → EF D
  | [] => dBad
  | [a] => f a
  | a :: b :: l => dAnd (f a) (andE f (b :: l))
def orE (f : Expr → EF D) : List Expr → EF D
  | [] => dBad
  | [a] => f a
  | a :: b :: l => dOr (f a) (orE f (b :: l))
def andT (f : Expr → EF Bool) : List Expr → EF Bool
  | [] => dBad
  | [a] => f a
  | a :: b :: l => tAnd (f a) (andT f (b :: l))
def orT (f : Expr → EF Bool) : List Expr → EF Bool
  | [] => dBad
  | [a] => f a
  | a :: b :: l => tOr (f a) (orT f (b :: l))
def partE (f : Expr → EF D) : Option Expr → EF (Option Int)
  | none => dNoP
  | some e => dPart (f e)
def oNeg (a : D) (M : Mem) : OV := match a with
  | .int i => some (.int (-i), M)
  | _ => none
/-- a built-in by its name -/
def bltE (c : SC) (x : Str) (g : EF (List D)) : EF D :=
  if x = "len" then dBlt oLen g else
  if x = "isinstance" then (if c.hot = true then dBlt (oIsiX c.he c.hn c.isx) g else dBlt oIsi g) else
  if x = "int" then dBlt oToInt g else
  if x = "bool" then dBlt oToBool g else
  if x = "str" then dBlt oToStr g else
  if x = "abs" then dBlt oAbs g else
  if x = "tuple" then dBlt oToTup g else
  if x = "list" then dBlt oToLst g else
  if x = "sorted" then dBlt oSorted g else
  if c.hot = true then dBad else
  if x = "sum" then dBlt oSum g else
  if x = "all" then dBlt oAll g else
  if x = "max" then dBlt oMax g else
  if x = "min" then dBlt oMin g else dBad
def fnsOf (G : List (Str × GD)) (x : Str) : Option (Nat × (List D → Mem → Res D)) := match G.lookup x with
  | some (.fn n φ) => some (n, φ)
  | _ => none
def slotE (c : SC) (x : Str) (g : EF (List D)) : EF D := match ix c.N x with
  | some i => if c.hot = true then dBad else dCallV (fnsOf c.G) i g
  | none => dBad
def callE (c : SC) (x : Str) (g : EF (List D)) : EF D := if okName x = true then (match c.sc.names.lookup x with
  | some .globalImplicit => (match c.G.lookup x with
    | some (.fn n φ) => if c.hot = true then dBad else dCall φ n g
    | some .blt => bltE c x g
    | _ => dBad)
  | some .local => slotE c x g
  | some .cell => slotE c x g
  | some .free => slotE c x g
  | _ => dBad) else dBad
def asLam : Expr → List Expr → Option (Arguments × Expr × Scope)
  | .Lambda p b s _, [] => some (p, b, s)
  | _, _ => none
def noArgs : Arguments → Bool
  | ⟨[], [], none, [], [], none, []⟩ => true
  | _ => false
def lamSC (c : SC) (scope : Scope) : SC := { c with sc := scope, fn := fun _ => false, up := 0 }
def lamE (c : SC) (x : Str) (p : Arguments) (scope : Scope) (f : EF D) : EF D := if c.hot = false ∧ c.up = 2 ∧ okName x = true ∧ c.sc.names.lookup x = some .globalImplicit ∧ noArgs p = true ∧ LamX.lamSB c.sc scope = true then (match c.G.lookup x with
  | some (.hof F) => dHof F f
  | _ => dBad) else dBad
def methE (c : SC) (name : Str) (f : EF D) (g : EF (List D)) : EF D := if name = "append" then dMt isLst oApp f g else if name = "join" then dMt isStr oJoin f g else dBad
/-- a target: its slots, its store -/
def nmG (c : SC) (x : Str) : Option (Nat × GF D) := match ix c.N x with
  | some i => if c.sc.names.lookup x = some .local ∨ (c.fn x = true ∧ c.sc.names.lookup x = some .cell) then some (i, gNm i) else none
  | none => none
def nmsG (c : SC) : List Expr → Option (List Nat × GF (List D))
  | [] => some ([], gsNil)
  | .Name x _ :: es => match nmG c x, nmsG c es with
    | some p, some q => some ([p.1] ++ q.1, gsCons p.2 q.2)
    | _, _ => none
  | _ => none
def tgG (c : SC) : Expr → Option (List Nat × GF D)
  | .Name x _ => (nmG c x).map fun p => ([p.1], p.2)
  | .Tuple es _ _ => (nmsG c es).map fun p => (p.1, gTp es.length p.2)
  | _ => none
def ownOf (c : SC) (scope : Scope) : List (Str × Nat) := scope.names.filterMap fun p => match p.2 with
  | .local => (ix c.N p.1).map fun i => (p.1, i)
  | .cell => (ix c.N p.1).map fun i => (p.1, i)
  | _ => none
def blkS (c : SC) (scope : Scope) : SC := { c with sc := relS scope c.sc, fn := fun x => scope.names.lookup x == some .cell, up := 0 }
def isTup : Expr → Bool
  | .Tuple .. => true
  | _ => false
def ifsE (f : Expr → EF Bool) : List Expr → EF Bool
  | [] => tTrue
  | [t] => f t
  | _ => dBad
def lcE (r : Cp) (c : SC) (elt tg iter : Expr) (ifs : List Expr) (scope : Scope) : EF D :=
  if blkC c.N c.sc scope (ownOf c scope) = true ∧ notSet iter = true ∧ ifs.length ≤ 1 then (match tgG (blkS c scope) tg with
    | some p => if p.1.all (fun i => ((ownOf c scope).map (·.2)).contains i) = true then dLc ((ownOf c scope).map (·.2)) (if c.hot = true then dLive (r.E c iter) else r.I c (isTup tg) iter) p.2 (ifsE (r.B (blkS c scope)) ifs) (r.E (blkS c scope) elt) else dBad
    | none => dBad) else dBad
def stepE (r : Cp) (c : SC) : Expr → EF D
  | .Constant k _ _ => (match k with
    | .int i => dC (.int i)
    | .bool b => dC (.bl b)
    | .none => dC .non
    | .str s => dC (.str s)
    | _ => dBad)
  | .Name x _ => nameE c x
  | .BinOp a op b _ => binE op (r.E c a) (r.E c b)
  | .UnaryOp op a _ => (match op with
    | .Not => dNot (r.E c a)
    | .USub => dUn oNeg (r.E c a)
    | _ => dBad)
  | .BoolOp op vs _ => (match op with
    | .And => andE (r.E c) vs
    | .Or => orE (r.E c) vs)
  | .Compare a ops bs _ => (match ops, bs with
    | [op], [b] => if notSet b = true then (match cmpO op with
      | some f => dBin f (r.E c a) (r.E c b)
      | none => dBad) else dBad
    | [op, op'], [b, d] => if notSet d = true then (match cmpO op, cmpO op' with
      | some f, some f' => dCh f f' (r.E c a) (r.E c b) (r.E c d)
      | _, _ => dBad) else dBad
    | [op, op', op2], [b, d, e] => if notSet e = true then (match cmpO op, cmpO op', cmpO op2 with
      | some f, some f', some f2 => dCh3 f f' f2 (r.E c a) (r.E c b) (r.E c d) (r.E c e)
      | _, _, _ => dBad) else dBad
    | _, _ => dBad)
  | .IfExp t a b _ => dIf (r.B c t) (r.E c a) (r.E c b)
  | .Tuple es _ _ => dTup (r.A c es)
  | .List es _ => dLst (r.A c es)
  | .Subscript v i _ => (match i with
    | .Slice lo hi st _ => (match st with
      | none => dSl (r.E c v) (partE (r.E c) lo) (partE (r.E c) hi)
      | some s => (match lo, hi with
        | none, none => dBin oRv (r.E c v) (r.E c s)
        | _, _ => dBad))
    | i => dBin oIx (r.E c v) (r.E c i))
  | .Call f args kws pos => (match f, args, kws with
    | .Name x _, e :: es, [] => (match asLam e es with
      | some l => lamE c x l.1 l.2.2 (r.E (lamSC c l.2.2) l.2.1)
      | none => if (e :: es).all nst = true then callE c x (r.A c (e :: es)) else dBad)
    | .Attribute o name apos, e :: es, [] => if (e :: es).all nst = true ∧ plainB o = true ∧ (apos.endLine == pos.line) = true ∧ es.length < 20 then methE c name (r.E c o) (r.A c (e :: es)) else dBad
    | _, _, _ => dBad)
  | .ListComp elt gens scope _ => (match gens with
    | [⟨tg, iter, ifs, a⟩] => if a = 0 then lcE r c elt tg iter ifs scope else dBad
    | _ => dBad)
  | _ => dBad
def stepB (r : Cp) (c : SC) : Expr → EF Bool
  | .UnaryOp .Not a _ => tNot (r.B c a)
  | .BoolOp op vs _ => (match op with
    | .And => andT (r.B c) vs
    | .Or => orT (r.B c) vs)
  | .Compare a ops bs _ => (match ops, bs with
    | [op], [b] => if notSet b = true then (match cmpO op with
      | some f => tV (dBin f (r.E c a) (r.E c b))
      | none => dBad) else dBad
    | [op, op'], [b, d] => if notSet d = true then (match cmpO op, cmpO op' with
      | some f, some f' => tV (dCh f f' (r.E c a) (r.E c b) (r.E c d))
      | _, _ => dBad) else dBad
    | [op, op', op2], [b, d, e] => if notSet e = true then (match cmpO op, cmpO op', cmpO op2 with
      | some f, some f', some f2 => tV (dCh3 f f' f2 (r.E c a) (r.E c b) (r.E c d) (r.E c e))
      | _, _, _ => dBad) else dBad
    | _, _ => dBad)
  | e => if plainT e = true then tV (r.E c e) else dBad
def stepA (r : Cp) (c : SC) : List Expr → EF (List D)
  | [] => aNil
  | e :: es => if nst e = true then aCons (r.E c e) (r.A c es) else dBad
def stepI (r : Cp) (c : SC) (tup : Bool) (e : Expr) : EF Src := if c.hot = true then dBad else match e with
  | .Call (.Name x _) args kws pos => (match kws with
    | [] => if okName x = true ∧ c.sc.names.lookup x = some .globalImplicit then (match c.G.lookup x with
      | some .blt => (match args with
        | [a] => if nst a = true then (if x = "range" then dRng1 (r.A c [a]) else if x = "enumerate" ∧ tup = true then dEnumL (r.A c [a]) else dSeqSrc (r.E c e)) else dBad
        | [a, b] => if nst a = true ∧ nst b = true then (if x = "range" then dRng2 (r.A c [a, b]) else if x = "zip" ∧ tup = true then dZip (r.A c [a, b]) else dSeqSrc (r.E c e)) else dBad
        | _ => dSeqSrc (r.E c e))
      | _ => dSeqSrc (r.E c e)) else dSeqSrc (r.E c e)
    | _ => dSeqSrc (r.E c e))
  | e => dSeqSrc (r.E c e)
def asgS (r : Cp) (c : SC) (tg e : Expr) (pos : Pos) : DS := match tg with
  | .Name x p => (match nmG c x with
    | some q => (match e with
      | .ListComp elt gens scope lpos => if c.hot = false ∧ c.sc.names.lookup x = some .local ∧ c.sc.kind = .function ∧ (p.line == lpos.line) = true ∧ (scope.names.any fun (n, k) => n == x && (k == .local || k == .cell)) = false then (match gens with
          | [⟨tg2, iter, ifs, a⟩] => if a = 0 then sAsg (lcE r c elt tg2 iter ifs scope) (gNm q.1) else sBad
          | _ => sBad) else sBad
      | e => if notComp e = true then sAsg (r.E c e) (gNm q.1) else sBad)
    | none => sBad)
  | .Tuple ts k p => if notComp e = true then (match e with
    | .Tuple vs k2 p2 => if swNone c.sc ts vs = true ∧ ts.all nst = true then (match tgG c (.Tuple ts k p) with
        | some q => sAsg (r.E c e) q.2
        | none => sBad) else (match ts, vs with
        | [.Name x px, .Name y py], [a, b] => (match ix c.N x, ix c.N y with
          | some i, some j => if c.hot = false ∧ i ≠ j ∧ swPair c.sc x y px py a b = true then sPar [i, j] (r.A c [a, b]) else sBad
          | _, _ => sBad)
        | _, _ => sBad)
    | e => if notTup e = true then (match tgG c (.Tuple ts k p) with
      | some q => sAsg (r.E c e) q.2
      | none => sBad) else sBad) else sBad
  | .Subscript o i p => if notComp e = true ∧ plainX i = true then sAsg (r.E c e) (gSb (r.E c o) (r.E c i)) else sBad
  | _ => sBad
noncomputable def stepS (r : Cp) (c : SC) : Stmt → DS
  | .Pass _ => sNil
  | .Break _ => sBrk
  | .Continue _ => sCnt
  | .Return v _ => (match v with
    | some e => sRet (r.E c e)
    | none => sRetN)
  | .Expr e _ => if notComp e = true then sDrop (r.E c e) else sBad
  | .If t a b _ => sIf (r.B c t) (r.Ss c a) (r.Ss c b)
  | .Assign tgs e pos => (match tgs with
    | [tg] => asgS r c tg e pos
    | _ => sBad)
  | .For tg iter body els _ => (match els with
    | [] => if c.hot = false ∧ notSet iter = true then (match tgG c tg with
      | some p => sFor (r.I c (isTup tg) iter) p.2 (r.Ss c body)
      | none => sBad) else sBad
    | _ => sBad)
  | .While t body els _ => (match els with
    | [] => if c.hot = false then sWh (r.B c t) (r.Ss c body) else sBad
    | _ => sBad)
  | .Raise ex cause _ => (match ex, cause with
    | some (.Call (.Name x _) args kws _), none => (match args, kws with
      | [.Constant (.str _) _ _], [] => if c.hot = false ∧ okName x = true ∧ c.sc.names.lookup x = some .globalImplicit then (match c.G.lookup x with
        | some .exc => fun δ M => .exc ⟨x, []⟩ δ M
        | _ => sBad) else sBad
      | _, _ => sBad)
    | _, _ => sBad)
  | _ => sBad
noncomputable def stepSs (r : Cp) (c : SC) : List Stmt → DS
  | [] => sNil
  | s :: ss => sSeq (stepS r c s) (r.Ss c ss)
noncomputable def step (r : Cp) : Cp := ⟨stepE r, stepB r, stepA r, stepI r, stepSs r⟩
noncomputable def cp : Nat → Cp
  | 0 => cpBad
  | n + 1 => step (cp n)
end Pd
namespace Pd
open PySem PySem.Spec PyProof.Rows L2
structure CpOk (r : Cp) : Prop where
  E : ∀ {c T W X}, Mt c T W X → ∀ e, EV T W X e (r.E c e)
  B : ∀ {c T W X}, Mt c T W X → ∀ e, ET T W X e (r.B c e)
  A : ∀ {c T W X}, Mt c T W X → ∀ es, EA T W X es (r.A c es)
  I : ∀ {c T W X}, Mt c T W X → ∀ tg iter, EI T W X tg iter (r.I c (isTup tg) iter)
  Ss : ∀ {c T W X}, Mt c T W X → ∀ ss, ESs T W X ss (r.Ss c ss)
theorem EI.bad {T : TB} {W : WX} {X : Cx} (tg e : Expr) : EI T W X tg e dBad := ⟨fun _ _ _ => False, ⟨fun _ _ _ _ _ _ h => h.elim⟩, fun _ _ _ _ _ _ h => h⟩
theorem cpBad_ok : CpOk cpBad := ⟨fun _ e => EV.bad e, fun _ e => ET.bad e, fun _ e => EA.bad e, fun _ tg e => EI.bad tg e, fun _ ss => ESs.bad⟩
section
variable {c : SC} {T : TB} {W : WX} {X : Cx} {r : Cp}
theorem Mt.idx (m : Mt c T W X) {x : Str} {i : Nat} (h : ix c.N x = some i) : X.N[i]? = some x := by rw [m.N]; exact ix_ok h
theorem Mt.gx (m : Mt c T W X) {x : Str} (h : c.sc.names.lookup x = some .globalImplicit) : Gl X x := by
  show X.env.scope.names.lookup x = _
  rw [m.sc]
  exact h
theorem RelL.mkStrs {R : RC} {w : Wd} : ∀ (l : List Str), RelL R w (l.map D.str) (l.map V.str)
  | [] => .nil
  | _ :: l => .cons .mkStr (RelL.mkStrs l)
theorem name_ok (m : Mt c T W X) (x : Str) (pos : Pos) : EV T W X (.Name x pos) (nameE c x) := by
  unfold nameE
  split
  · rename_i hok
    obtain ⟨h1, h2, h3⟩ := okName_ok hok
    split
    · rename_i hg
      have g := m.gx hg
      split
      · rename_i i e
        obtain ⟨t, hm⟩ := m.gl x _ e
        exact EV.globI g hm h1
      · rename_i i e
        obtain ⟨t, hm⟩ := m.gl x _ e
        exact EV.globS g hm h1
      · rename_i e
        have hm : X.mg x = none := m.gl x _ e
        split
        · rename_i hx
          rcases hx with rfl | rfl | rfl | rfl | rfl
          · exact EV.bltTy g hm (by decide +kernel) h3 h1
          · exact EV.bltTy g hm (by decide +kernel) h3 h1
          · exact EV.bltTy g hm (by decide +kernel) h3 h1
          · exact EV.bltTy g hm (by decide +kernel) h3 h1
          · exact EV.bltTy g hm (by decide +kernel) h3 h1
        · exact EV.bad _
      · rename_i n φ e
        obtain ⟨f, fd, k, ps, _, hm, _⟩ := m.gl x _ e
        exact EV.glob (v := .ref f) g hm rfl h1
      · exact EV.bad _
      · rename_i l e
        obtain ⟨a, hm, hS⟩ := m.gl x _ e
        exact EV.const (pe_glob (v := .ref a) g hm rfl h1) (fun _ _ _ h => h) fun w => by unfold RelD; exact ⟨a, l.map V.str, rfl, hS w.H, RelL.mkStrs l⟩
      · rename_i e
        obtain ⟨a, hm⟩ := m.gl x _ e
        exact EV.glob (v := .ref a) g hm rfl h1
      · rename_i e
        obtain ⟨a, hm, _⟩ := m.gl x _ e
        exact EV.glob (v := .ref a) g hm rfl h1
      · exact EV.bad _
    · rename_i hg
      split
      · rename_i i e
        exact EV.var (m.idx e) (.inl (by rw [m.sc]; exact hg)) h1 h2
      · exact EV.bad _
    · rename_i hg
      split
      · rename_i i e
        exact EV.var (m.idx e) (.inr (.inl (by rw [m.sc]; exact hg))) h1 h2
      · exact EV.bad _
    · rename_i hg
      split
      · rename_i i e
        exact EV.var (m.idx e) (.inr (.inr (by rw [m.sc]; exact hg))) h1 h2
      · exact EV.bad _
    · exact EV.bad _
  · exact EV.bad _
theorem bin_ok {a b : Expr} {f g : EF D} (op : Operator) (pos : Pos) (ha : EV T W X a f) (hb : EV T W X b g) : EV T W X (.BinOp a op b pos) (binE op f g) := by
  cases op with
  | Add => exact EV.bin op_plus ok_add ha hb
  | Sub => exact EV.bin (rI0_of op_sub) ok_sub ha hb
  | Mult => exact EV.bin op_times ok_mul ha hb
  | Mod => exact EV.bin op_mod ok_mod ha hb
  | FloorDiv => exact EV.bin op_fdivW ok_fdiv ha hb
  | Pow => exact EV.bin op_pow ok_pow ha hb
  | _ => exact EV.bad _
theorem cmpO_ok (hu : X.A.units + 65 < cLine) {op : CmpOp} {f : D → D → Mem → OV} (h : cmpO op = some f) : ∃ r, OpR X (compareOp op) r ∧ OpOk T X f r := by
  cases op with
  | Eq => cases h; exact ⟨_, op_eqD (by omega), ok_eq⟩
  | NotEq => cases h; exact ⟨_, op_neD (by omega), ok_ne⟩
  | Lt => cases h; exact ⟨_, rI0_of op_lt, ok_lt⟩
  | LtE => cases h; exact ⟨_, rI0_of op_le, ok_le⟩
  | Gt => cases h; exact ⟨_, rI0_of op_gt, ok_gt⟩
  | GtE => cases h; exact ⟨_, rI0_of op_ge, ok_ge⟩
  | Is => cases h; exact ⟨_, op_isN, ok_isN⟩
  | IsNot => cases h; exact ⟨_, op_notN, ok_notN⟩
  | In => cases h; exact ⟨_, op_inA hu, ok_in⟩
  | NotIn => cases h; exact ⟨_, op_ninA hu, ok_nin⟩
theorem andE_ok {f : Expr → EF D} (h : ∀ e, EV T W X e (f e)) (pos : Pos) : ∀ vs, EV T W X (.BoolOp .And vs pos) (andE f vs)
  | [] => EV.bad _
  | [a] => EV.one (h a)
  | a :: b :: l => EV.and (h a) (andE_ok h pos (b :: l))
theorem orE_ok {f : Expr → EF D} (h : ∀ e, EV T W X e (f e)) (pos : Pos) : ∀ vs, EV T W X (.BoolOp .Or vs pos) (orE f vs)
  | [] => EV.bad _
  | [a] => EV.one (h a)
  | a :: b :: l => EV.or (h a) (orE_ok h pos (b :: l))
theorem andT_ok {f : Expr → EF Bool} (h : ∀ e, ET T W X e (f e)) (pos : Pos) : ∀ vs, ETW T W X (.BoolOp .And vs pos) (andT f vs)
  | [] => ETW.bad _
  | [a] => ETW.and1 (h a)
  | a :: b :: l => ETW.and (h a) (andT_ok h pos (b :: l))
theorem orT_ok {f : Expr → EF Bool} (h : ∀ e, ET T W X e (f e)) (pos : Pos) : ∀ vs, ETW T W X (.BoolOp .Or vs pos) (orT f vs)
  | [] => ETW.bad _
  | [a] => ETW.or1 (h a)
  | a :: b :: l => ETW.or (h a) (orT_ok h pos (b :: l))
theorem part_ok {f : Expr → EF D} (h : ∀ e, EV T W X e (f e)) : ∀ o, EP T W X o (partE f o)
  | none => EP.none
  | some e => EP.some (h e)
theorem EV.un {a : Expr} {f : EF D} {op : UnaryOp} {pos : Pos} {rr : V → Hp → VK → Prop} {dop : D → Mem → OV} (ho : UnR X (unaryOp op) rr) (hk : ∀ w d v Q, w.Ok (rc T X) → RelD (rc T X) w d v → PostV (rc T X) w Q (dop d w.M) → rr v w.H Q) (ha : EV T W X a f) : EV T W X (.UnaryOp op a pos) (dUn dop f) := by
  obtain ⟨ta, pa, qa⟩ := ha
  refine ⟨_, pe_un ho pa, fun w δ σ Q o s h => ?_⟩
  exact qa w δ σ _ o s (h.bind fun d1 w1 v1 l1 o1 r1 h1 => hk w1 d1 v1 Q o1 r1 (post_ofV h1))
theorem neg_ok {a : Expr} {f : EF D} {pos : Pos} (ha : EV T W X a f) : EV T W X (.UnaryOp .USub a pos) (dUn oNeg f) :=
  EV.un un_neg (fun w d v Q o r h => by
    cases d with
    | int i => unfold RelD at r; exact ⟨i, r, PostV.val h o .mkInt⟩
    | _ => exact h.elim) ha
theorem notComp_sole {t e : Expr} {l : Nat} {env : Env} (h : notComp e = true) : swapsWithSole [t] e l env = pure false := notComp_ok h
theorem blt_ok (m : Mt c T W X) {x : Str} {e : Expr} {es : List Expr} {g : EF (List D)} {p pos : Pos} (hg : Gl X x) (hm : X.mg x = none) (ha : EA T W X (e :: es) g) (hn : x ≠ "__name__") (hdb : (x == ("__debug__" : Str)) = false)
    (he : starEach (e :: es) X.env = (false, eval e X.env) :: starEach es X.env) (hpl : (backTo pos (starEach es X.env)).any (·.1) = false) : EV T W X (.Call (.Name x p) (e :: es) [] pos) (bltE c x g) := by
  unfold bltE
  by_cases hx : x = "len"
  · rw [if_pos hx]; subst hx; exact EV.callB call_len bl_len hg hm (by decide +kernel) ha hn hdb he hpl
  rw [if_neg hx]; clear hx
  by_cases hx : x = "isinstance"
  · rw [if_pos hx]
    subst hx
    split
    · rename_i hh
      have hot := m.hots hh
      refine EV.callB (call_isi.or (call_isX hot)) (bl_isX (isx := c.isx) (fun x y b C D h1 h2 h3 => ?_) ?_ fun x y b h => ?_) hg hm (by decide +kernel) ha hn hdb he hpl
      · obtain ⟨D', d1, d2⟩ := m.isx x y b h1
        rw [h3] at d1
        cases d1
        exact d2 C h2
      · obtain ⟨o, vs, C, _, _, _, z, _⟩ := hot.ob
        exact ⟨C, z⟩
      · obtain ⟨D', d1, _⟩ := m.isx x y b h
        exact ⟨D', d1⟩
    · exact EV.callB call_isi bl_isi hg hm (by decide +kernel) ha hn hdb he hpl
  rw [if_neg hx]; clear hx
  by_cases hx : x = "int"
  · rw [if_pos hx]; subst hx; exact EV.callTy call_int1 bl_int hg hm (by decide +kernel) ha hn hdb he hpl
  rw [if_neg hx]; clear hx
  by_cases hx : x = "bool"
  · rw [if_pos hx]; subst hx; exact EV.callTy call_bool1 bl_bool hg hm (by decide +kernel) ha hn hdb he hpl
  rw [if_neg hx]; clear hx
  by_cases hx : x = "str"
  · rw [if_pos hx]; subst hx; exact EV.callTy call_str_int bl_str hg hm (by decide +kernel) ha hn hdb he hpl
  rw [if_neg hx]; clear hx
  by_cases hx : x = "abs"
  · rw [if_pos hx]; subst hx; exact EV.callB call_abs bl_abs hg hm (by decide +kernel) ha hn hdb he hpl
  rw [if_neg hx]; clear hx
  by_cases hx : x = "tuple"
  · rw [if_pos hx]; subst hx; exact EV.callTy call_tuple_of bl_tup hg hm (by decide +kernel) ha hn hdb he hpl
  rw [if_neg hx]; clear hx
  by_cases hx : x = "list"
  · rw [if_pos hx]; subst hx; exact EV.callTy call_list_of bl_lst hg hm (by decide +kernel) ha hn hdb he hpl
  rw [if_neg hx]; clear hx
  by_cases hx : x = "sorted"
  · rw [if_pos hx]; subst hx; exact EV.callB cr_sorted bl_sorted hg hm (by decide +kernel) ha hn hdb he hpl
  rw [if_neg hx]; clear hx
  by_cases hh : c.hot = true
  · rw [if_pos hh]; exact EV.bad _
  rw [if_neg hh]
  have hc := (m.cool (by cases q : c.hot <;> first | rfl | exact absurd q hh)).1
  by_cases hx : x = "sum"
  · rw [if_pos hx]; subst hx; exact EV.callB (cr_sum hc) bl_sum hg hm (by decide +kernel) ha hn hdb he hpl
  rw [if_neg hx]; clear hx
  by_cases hx : x = "all"
  · rw [if_pos hx]; subst hx; exact EV.callB (cr_all hc) bl_all hg hm (by decide +kernel) ha hn hdb he hpl
  rw [if_neg hx]; clear hx
  by_cases hx : x = "max"
  · rw [if_pos hx]; subst hx; exact EV.callB ((call_max2 hc).or ((cr_max hc).or (cr_max3 hc))) bl_max hg hm (by decide +kernel) ha hn hdb he hpl
  rw [if_neg hx]; clear hx
  by_cases hx : x = "min"
  · rw [if_pos hx]; subst hx; exact EV.callB ((call_min2 hc).or ((cr_min hc).or (cr_minT hc))) bl_min hg hm (by decide +kernel) ha hn hdb he hpl
  rw [if_neg hx]; clear hx
  exact EV.bad _
theorem slot_ok (m : Mt c T W X) {x : Str} {e : Expr} {es : List Expr} {g : EF (List D)} {p pos : Pos} (ha : EA T W X (e :: es) g) (hs' : nst e = true ∧ es.all nst = true) (hv : Vis X.env.scope x) (h1 : (x == ("__debug__" : Str)) = false) (h2 : (x == ("__classdict__" : Str)) = false) :
    EV T W X (.Call (.Name x p) (e :: es) [] pos) (slotE c x g) := by
  unfold slotE
  split
  · rename_i i hi
    split
    · exact EV.bad _
    · rename_i hh
      have hc := m.cool (by cases q : c.hot <;> first | rfl | exact absurd q hh)
      refine EV.callV (k := c.lv + c.up) (fun x n φ hx => ?_) hc.2.1 (m.idx hi) hv hc.2.2.1 ha h1 h2 (nst_cons hs'.1) (nst_any hs'.2)
      unfold fnsOf at hx
      split at hx
      · rename_i n' φ' e1
        cases hx
        obtain ⟨f, fd, k, ps, hk, hm, F, kp, hb⟩ := m.gl x _ e1
        exact ⟨f, fd, k, ps, Nat.le_trans hk (Nat.le_add_right _ _), hm, F, kp, hb⟩
      · cases hx
  · exact EV.bad _
theorem call_ok (m : Mt c T W X) {x : Str} {e : Expr} {es : List Expr} {g : EF (List D)} {p pos : Pos} (ha : EA T W X (e :: es) g) (hs : (e :: es).all nst = true) : EV T W X (.Call (.Name x p) (e :: es) [] pos) (callE c x g) := by
  have hs' := hs
  rw [List.all_cons, Bool.and_eq_true] at hs'
  unfold callE
  split
  · rename_i hok
    obtain ⟨h1, h2, h3⟩ := okName_ok hok
    split
    · rename_i hl
      have hg := m.gx hl
      split
      · rename_i n φ e1
        split
        · exact EV.bad _
        · rename_i hh
          have hc := m.cool (by cases q : c.hot <;> first | rfl | exact absurd q hh)
          obtain ⟨f, fd, k, ps, hk, hm, F, kp, hb⟩ := m.gl x _ e1
          exact EV.call F (hc.2.1.mono (Nat.le_trans hk (Nat.le_add_right _ _))) hg hm kp hb hc.2.2.1 ha h1 (nst_cons hs'.1) (nst_any hs'.2)
      · rename_i e1
        exact blt_ok m hg (m.gl x _ e1) ha h3 h1 (nst_cons hs'.1) (nst_any hs'.2)
      · exact EV.bad _
    · rename_i hl
      exact slot_ok m ha hs' (.inl (by rw [m.sc]; exact hl)) h1 h2
    · rename_i hl
      exact slot_ok m ha hs' (.inr (.inl (by rw [m.sc]; exact hl))) h1 h2
    · rename_i hl
      exact slot_ok m ha hs' (.inr (.inr (by rw [m.sc]; exact hl))) h1 h2
    · exact EV.bad _
  · exact EV.bad _
theorem noArgs_ok {p : Arguments} (h : noArgs p = true) : p = ⟨[], [], none, [], [], none, []⟩ := by
  unfold noArgs at h
  split at h
  · rfl
  · cases h
theorem Mt.lamb (m : Mt c T W X) (hh : c.hot = false) (hu : c.up = 2) {A : Around} {outer : List Env} {s : Shared} {H : Hp} {E : XK} {scope : Scope} {f c' : Addr} (hr : Room c.lv (A.deeper (LamX.lamEnv X scope s.heap.objs.size f c'))) :
    Mt (lamSC c scope) T (fun c d _ H' => E c d H') (lamCxN X A outer s H E scope f c') where
  N := m.N
  nd := m.nd
  sc := rfl
  fn := fun _ h => by cases h
  un := by
    have := hr.un
    show (A.deeper (LamX.lamEnv X scope s.heap.objs.size f c')).units + 65 < cLine
    omega
  gl := m.gl
  cool := fun _ => ⟨rfl, hr, L2N.takes_of rfl rfl rfl rfl, passes_of rfl⟩
  hots := fun h => by
    have z : c.hot = true := h
    rw [hh] at z
    cases z
  isx := m.isx
  lam := fun h => by cases h
theorem lam_ok (R : CpOk r) (m : Mt c T W X) {x : Str} {e : Expr} {es : List Expr} {l : Arguments × Expr × Scope} {p pos : Pos} (ha : asLam e es = some l) : EV T W X (.Call (.Name x p) (e :: es) [] pos) (lamE c x l.1 l.2.2 (r.E (lamSC c l.2.2) l.2.1)) := by
  unfold asLam at ha
  split at ha
  · rename_i pa b s lpos
    cases ha
    unfold lamE
    split
    · rename_i h
      obtain ⟨hh, hu, hok, hl, hn, hL⟩ := h
      obtain ⟨h1, h2, h3⟩ := okName_ok hok
      split
      · rename_i F e1
        have hc := m.cool hh
        obtain ⟨cc, P, k1, k2, k3, k4⟩ := m.lam hu
        have hr : Room (c.lv + 2) X.A := by have := hc.2.1; rw [hu] at this; exact this
        have en := noArgs_ok hn
        dsimp only at en ⊢
        subst en
        exact EV.hof (m.gx hl) (m.gl x _ e1) hr hc.2.2.1 k2 k1 k3 k4 (LamX.lamS_by (by rw [m.sc]; exact hL)) rfl (fun _ _ _ _ _ => rfl) (fun A outer s H E f c' hr2 => R.E (m.lamb hh hu hr2) b) h1
      · exact EV.bad _
    · exact EV.bad _
  · cases ha
theorem meth_ok {name : Str} {o e : Expr} {es : List Expr} {f : EF D} {g : EF (List D)} {apos cpos : Pos} (ho : EV T W X o f) (ha : EA T W X (e :: es) g) (hs : (e :: es).all nst = true) (hb : plainB o = true) (hl : (apos.endLine == cpos.line) = true) (hz : es.length < 20) :
    EV T W X (.Call (.Attribute o name apos) (e :: es) [] cpos) (methE c name f g) := by
  have hs' := hs
  rw [List.all_cons, Bool.and_eq_true] at hs'
  unfold methE
  split
  · rename_i hx
    subst hx
    exact EV.mt (fun w d v ok h r => isLst_ok ok h r) PySem.F.plainAttrs_list PySem.F.slot_list_append PySem.F.type_list_append mt_append mk_app ho ha (plainB_ok hb) (nst_few hs hz) hl (nst_cons hs'.1) (nst_any hs'.2)
  split
  · rename_i hx
    subst hx
    exact EV.mt (fun w d v ok h r => isStr_ok h r) PySem.F.plainAttrs_str PySem.F.slot_str_join PySem.F.type_str_join mt_join mk_join ho ha (plainB_ok hb) (nst_few hs hz) hl (nst_cons hs'.1) (nst_any hs'.2)
  · exact EV.bad _
/-! targets -/
theorem nmG_ok (m : Mt c T W X) {x : Str} {q : Nat × GF D} (h : nmG c x = some q) (pos : Pos) : X.N[q.1]? = some x ∧ Loc X.env.scope x ∧ (X.fn x = true ∨ X.env.scope.names.lookup x = some .local) ∧ q.2 = gNm q.1 ∧ EG T X (.Name x pos) [q.1] q.2 := by
  unfold nmG at h
  split at h
  · rename_i i e
    split at h
    · rename_i hx
      cases h
      have a := m.idx e
      have b : Loc X.env.scope x := by
        rw [m.sc]
        rcases hx with hx | hx
        · exact .inl hx
        · exact .inr hx.2
      have d : X.fn x = true ∨ X.env.scope.names.lookup x = some .local := by
        rcases hx with hx | hx
        · exact .inr (by rw [m.sc]; exact hx)
        · exact .inl (m.fn x hx.1)
      exact ⟨a, b, d, rfl, EG.name m.nd a b d⟩
    · cases h
  · cases h
theorem nmsG_ok (m : Mt c T W X) : ∀ {es : List Expr} {p : List Nat × GF (List D)}, nmsG c es = some p → EGs T X es p.1 p.2 ∧ es.all nst = true
  | [], p, h => by
    unfold nmsG at h
    cases h
    exact ⟨EGs.nil, rfl⟩
  | e :: es, p, h => by
    unfold nmsG at h
    split at h
    · rename_i h0; cases h0
    · rename_i x pos es' h0
      cases h0
      split at h
      · rename_i a b e1 e2
        cases h
        obtain ⟨h1, h2⟩ := nmsG_ok m e2
        exact ⟨EGs.cons (nmG_ok m e1 pos).2.2.2.2 h1 (asg_cons rfl), by rw [List.all_cons, h2]; rfl⟩
      · cases h
    · cases h
theorem tgG_ok (m : Mt c T W X) {tg : Expr} {p : List Nat × GF D} (h : tgG c tg = some p) : EG T X tg p.1 p.2 := by
  unfold tgG at h
  split at h
  · rename_i x pos
    cases e : nmG c x with
    | none => rw [e] at h; cases h
    | some q =>
      rw [e] at h
      cases h
      exact (nmG_ok m e pos).2.2.2.2
  · rename_i es k pos
    cases e : nmsG c es with
    | none => rw [e] at h; cases h
    | some q =>
      rw [e] at h
      cases h
      obtain ⟨h1, h2⟩ := nmsG_ok m e
      cases q2 : c.hot with
      | true => exact EG.tupH (m.hots q2) h1 asg_len (asg_star h2)
      | false => exact EG.tup (m.cool q2).1 h1 asg_len (asg_star h2)
  · cases h
theorem Mt.blk (m : Mt c T W X) (s : Shared) (H : Hp) (scope : Scope) (C : Addr) (cl : List (Str × Addr)) (fp : List Addr) (hh : c.hot = true → HotS c.he c.hn (X.blk s H scope (compEnvC scope cl C X.env) fp)) : Mt (blkS c scope) T WF (X.blk s H scope (compEnvC scope cl C X.env) fp) where
  N := m.N
  nd := m.nd
  sc := by
    show relabel scope X.env = relS scope c.sc
    rw [← m.sc]
    rfl
  fn := fun x h => h
  un := m.un
  gl := m.gl
  cool := fun hh => by
    have hc := m.cool hh
    refine ⟨hc.1, hc.2.1.mono (Nat.le_add_right _ _), fun u s' x => ?_, PassesOwn.never⟩
    obtain ⟨_, _, _, _, _, _, _, _, _, _, _, _, _, _, _, _, z⟩ := x
    exact z.elim
  hots := hh
  isx := m.isx
  lam := fun h => by cases h
theorem lc_one (R : CpOk r) (m : Mt c T W X) {elt tg iter : Expr} {ifs : List Expr} {scope : Scope} {p : List Nat × GF D} (h3 : ifs.length ≤ 1) (hp : tgG (blkS c scope) tg = some p) (s : Shared) (H : Hp) (C : Addr) (cl : List (Str × Addr)) (fp : List Addr)
    (hh : c.hot = true → HotS c.he c.hn (X.blk s H scope (compEnvC scope cl C X.env) fp)) : EG T (X.blk s H scope (compEnvC scope cl C X.env) fp) tg p.1 p.2 ∧ ETs T WF (X.blk s H scope (compEnvC scope cl C X.env) fp) ifs (ifsE (r.B (blkS c scope)) ifs) ∧ EV T WF (X.blk s H scope (compEnvC scope cl C X.env) fp) elt (r.E (blkS c scope) elt) := by
  refine ⟨tgG_ok (m.blk s H scope C cl fp hh) hp, ?_, R.E (m.blk s H scope C cl fp hh) elt⟩
  match ifs, h3 with
  | [], _ => exact ETs.nil
  | [t], _ => exact ETs.one (R.B (m.blk s H scope C cl fp hh) t)
theorem lc_ok (R : CpOk r) (m : Mt c T W X) {elt tg iter : Expr} {ifs : List Expr} {scope : Scope} {pos : Pos} : EV T W X (.ListComp elt [⟨tg, iter, ifs, 0⟩] scope pos) (lcE r c elt tg iter ifs scope) := by
  unfold lcE
  split
  · rename_i h
    obtain ⟨h1, h2, h3⟩ := h
    have hb : BlkOk X.N X.env.scope scope (ownOf c scope) := by rw [m.N, m.sc]; exact blkOk_by h1
    split
    · rename_i p hp
      split
      · rename_i hv
        have hv' : ∀ i ∈ p.1, i ∈ (ownOf c scope).map (·.2) := fun i hi => by
          have := List.all_eq_true.mp hv i hi
          simpa using this
        have key := lc_one R m (elt := elt) (iter := iter) h3 hp
        split
        · rename_i hh
          exact EV.lcH (m.hots hh) m.nd (R.E m iter) hb hv' (fun s H C cl fp z => key s H C cl fp fun _ => z) (notSet_ok h2)
        · rename_i hh
          have hf : c.hot = true → ∀ {q : Prop}, q := fun z => absurd z hh
          exact EV.lc (m.cool (by cases q : c.hot <;> first | rfl | exact absurd q hh)).1 m.nd (R.I m tg iter) hb hv' (fun s H C cl fp => (key s H C cl fp fun z => hf z).1) (fun s H C cl fp => (key s H C cl fp fun z => hf z).2.1) (fun s H C cl fp => (key s H C cl fp fun z => hf z).2.2) (notSet_ok h2)
      · exact EV.bad _
    · exact EV.bad _
  · exact EV.bad _
theorem setLc_ok (R : CpOk r) (m : Mt c T W X) (hh : c.hot = false) {elt tg iter : Expr} {ifs : List Expr} {scope : Scope} {pos py spos : Pos} {x : Str} {i : Nat} (hi : X.N[i]? = some x) (hl : c.sc.names.lookup x = some .local)
    (hsw : swapsWith (.ListComp elt [⟨tg, iter, ifs, 0⟩] scope pos) (some (.Name x py)) spos.line X.env = pure true) : ES T W X (.Assign [.Name x py] (.ListComp elt [⟨tg, iter, ifs, 0⟩] scope pos) spos) (sAsg (lcE r c elt tg iter ifs scope) (gNm i)) := by
  have bad : ∀ g, ES T W X (.Assign [.Name x py] (.ListComp elt [⟨tg, iter, ifs, 0⟩] scope pos) spos) (sAsg dBad g) := fun g => ⟨tNever, ps_never, fun _ _ _ _ _ _ h => h⟩
  unfold lcE
  split
  · rename_i h
    obtain ⟨h1, h2, h3⟩ := h
    have hb : BlkOk X.N X.env.scope scope (ownOf c scope) := by rw [m.N, m.sc]; exact blkOk_by h1
    split
    · rename_i p hp
      split
      · rename_i hv
        have hv' : ∀ i ∈ p.1, i ∈ (ownOf c scope).map (·.2) := fun i hi => by
          have := List.all_eq_true.mp hv i hi
          simpa using this
        have key := lc_one R m (elt := elt) (iter := iter) h3 hp
        have hf : c.hot = true → ∀ {q : Prop}, q := fun z => by rw [hh] at z; cases z
        rw [if_neg (by rw [hh]; exact Bool.false_ne_true)]
        exact ES.setLc (m.cool hh).1 m.nd hi (by rw [m.sc]; exact hl) hsw (R.I m tg iter) hb hv' (fun s H C cl fp => (key s H C cl fp fun z => hf z).1) (fun s H C cl fp => (key s H C cl fp fun z => hf z).2.1) (fun s H C cl fp => (key s H C cl fp fun z => hf z).2.2) (notSet_ok h2)
      · exact bad _
    · exact bad _
  · exact bad _
theorem stepE_ok (R : CpOk r) (m : Mt c T W X) (e : Expr) : EV T W X e (stepE r c e) := by
  unfold stepE
  split
  · rename_i k j pos
    split
    · exact EV.int
    · exact EV.bl
    · exact EV.non
    · exact EV.str
    · exact EV.bad _
  · exact name_ok m _ _
  · exact bin_ok _ _ (R.E m _) (R.E m _)
  · split
    · exact EV.not (R.E m _)
    · exact neg_ok (R.E m _)
    · exact EV.bad _
  · split
    · exact andE_ok (R.E m) _ _
    · exact orE_ok (R.E m) _ _
  · split
    · split
      · rename_i hb
        split
        · rename_i f hf
          obtain ⟨rr, h1, h2⟩ := cmpO_ok (T := T) m.un hf
          exact EV.cmp h1 h2 (R.E m _) (R.E m _) (nomark_ok hb)
        · exact EV.bad _
      · exact EV.bad _
    · split
      · rename_i hb
        split
        · rename_i f f' hf hf'
          obtain ⟨r1, h1, h2⟩ := cmpO_ok (T := T) m.un hf
          obtain ⟨r2, h3, h4⟩ := cmpO_ok (T := T) m.un hf'
          exact EV.chain h1 h2 h3 h4 (R.E m _) (R.E m _) (R.E m _) (nomark_ok hb)
        · exact EV.bad _
      · exact EV.bad _
    · split
      · rename_i hb
        split
        · rename_i f f' f2 hf hf' hf2
          obtain ⟨r1, h1, h2⟩ := cmpO_ok (T := T) m.un hf
          obtain ⟨r2, h3, h4⟩ := cmpO_ok (T := T) m.un hf'
          obtain ⟨r3, h5, h6⟩ := cmpO_ok (T := T) m.un hf2
          exact EV.chain3 h1 h2 h3 h4 h5 h6 (R.E m _) (R.E m _) (R.E m _) (R.E m _) (nomark_ok hb)
        · exact EV.bad _
      · exact EV.bad _
    · exact EV.bad _
  · exact EV.ite (R.B m _) (R.E m _) (R.E m _)
  · exact EV.tup (R.A m _)
  · exact EV.lst (R.A m _)
  · split
    · split
      · exact EV.sl (R.E m _) (part_ok (R.E m) _) (part_ok (R.E m) _)
      · split
        · exact EV.rev (R.E m _) (R.E m _)
        · exact EV.bad _
    · rename_i hn
      refine EV.ix (R.E m _) (R.E m _) (plainX_ok ?_)
      unfold plainX
      split
      · exact (hn _ _ _ _ rfl).elim
      · rfl
  · split
    · split
      · rename_i l hl
        exact lam_ok R m hl
      · split
        · rename_i hs
          exact call_ok m (R.A m _) hs
        · exact EV.bad _
    · split
      · rename_i hs
        exact meth_ok (R.E m _) (R.A m _) hs.1 hs.2.1 hs.2.2.1 hs.2.2.2
      · exact EV.bad _
    · exact EV.bad _
  · split
    · split
      · rename_i h0
        subst h0
        exact lc_ok R m
      · exact EV.bad _
    · exact EV.bad _
  · exact EV.bad _
theorem stepB_ok (R : CpOk r) (m : Mt c T W X) (e : Expr) : ET T W X e (stepB r c e) := by
  unfold stepB
  split
  · exact ET.not (R.B m _)
  · split
    · exact (andT_ok (R.B m) _ _).t
    · exact (orT_ok (R.B m) _ _).t
  · split
    · split
      · rename_i hb
        split
        · rename_i f hf
          obtain ⟨rr, h1, h2⟩ := cmpO_ok (T := T) m.un hf
          exact ET.cmp h1 h2 (R.E m _) (R.E m _) (nomark_ok hb)
        · exact ET.bad _
      · exact ET.bad _
    · split
      · rename_i hb
        split
        · rename_i f f' hf hf'
          obtain ⟨r1, h1, h2⟩ := cmpO_ok (T := T) m.un hf
          obtain ⟨r2, h3, h4⟩ := cmpO_ok (T := T) m.un hf'
          exact ET.chain h1 h2 h3 h4 (R.E m _) (R.E m _) (R.E m _) (nomark_ok hb)
        · exact ET.bad _
      · exact ET.bad _
    · split
      · rename_i hb
        split
        · rename_i f f' f2 hf hf' hf2
          obtain ⟨r1, h1, h2⟩ := cmpO_ok (T := T) m.un hf
          obtain ⟨r2, h3, h4⟩ := cmpO_ok (T := T) m.un hf'
          obtain ⟨r3, h5, h6⟩ := cmpO_ok (T := T) m.un hf2
          exact ET.chain3 h1 h2 h3 h4 h5 h6 (R.E m _) (R.E m _) (R.E m _) (R.E m _) (nomark_ok hb)
        · exact ET.bad _
      · exact ET.bad _
    · exact ET.bad _
  · split
    · rename_i hp
      exact ET.val (R.E m _) (plainT_ok hp)
    · exact ET.bad _
theorem stepA_ok (R : CpOk r) (m : Mt c T W X) (es : List Expr) : EA T W X es (stepA r c es) := by
  unfold stepA
  split
  · exact EA.nil
  · split
    · rename_i h
      exact EA.cons (R.E m _) (R.A m _) (nst_cons h)
    · exact EA.bad _
theorem stepI_ok (R : CpOk r) (m : Mt c T W X) (tg e : Expr) : EI T W X tg e (stepI r c (isTup tg) e) := by
  have dflt : EI T W X tg e (dSeqSrc (r.E c e)) := EI.seq (R.E m e)
  unfold stepI
  split
  · exact EI.bad _ _
  split
  · rename_i x p args kws pos
    split
    · split
      · rename_i h
        obtain ⟨hok, hl⟩ := h
        obtain ⟨h1, h2, h3⟩ := okName_ok hok
        have hg := m.gx hl
        split
        · rename_i e1
          have hm : X.mg x = none := m.gl x _ e1
          split
          · rename_i a
            split
            · rename_i ha
              split
              · rename_i hx
                subst hx
                exact EI.rng1 hg hm (R.A m _) (nst_cons ha)
              · split
                · rename_i hx
                  obtain ⟨hx, ht⟩ := hx
                  subst hx
                  cases tg <;> first | (exact EI.enumL hg hm (R.A m _) (nst_cons ha)) | cases ht
                · exact dflt
            · exact EI.bad _ _
          · rename_i a b
            split
            · rename_i ha
              have hb1 : starEach [b] X.env = [(false, eval b X.env)] := nst_cons ha.2
              split
              · rename_i hx
                subst hx
                exact EI.rng2 hg hm (R.A m _) (by rw [nst_cons ha.1, hb1]) hb1
              · split
                · rename_i hx
                  obtain ⟨hx, ht⟩ := hx
                  subst hx
                  cases tg <;> first | (exact EI.zip hg hm (R.A m _) (nst_cons ha.1) (by rw [hb1]; rfl)) | cases ht
                · exact dflt
            · exact EI.bad _ _
          · exact dflt
        · exact dflt
      · exact dflt
    · exact dflt
  · exact dflt
theorem asg_ok (R : CpOk r) (m : Mt c T W X) (tg e : Expr) (pos : Pos) : ES T W X (.Assign [tg] e pos) (asgS r c tg e pos) := by
  unfold asgS
  split
  · rename_i x p
    split
    · rename_i q hq
      obtain ⟨a1, a2, a3, a4, a5⟩ := nmG_ok m hq p
      split
      · rename_i elt gens scope lpos
        split
        · rename_i h
          obtain ⟨hh, h1, h2, h3, h4⟩ := h
          split
          · split
            · rename_i h0
              subst h0
              exact setLc_ok R m hh a1 h1 (sw_true (by rw [m.sc]; exact h2) (by rw [m.sc]; exact h1) h3 h4)
            · exact ES.bad
          · exact ES.bad
        · exact ES.bad
      · split
        · rename_i hc
          exact ES.set m.nd a1 a2 a3 (R.E m e) (notComp_ok hc)
        · exact ES.bad
    · exact ES.bad
  · rename_i ts k p
    split
    · rename_i hc
      split
      · rename_i vs k2 p2
        split
        · rename_i h
          split
          · rename_i q hq
            exact ES.asg (R.E m _) (tgG_ok m hq) (notComp_sole hc) (swNone_ok (by rw [m.sc]; exact h.1)) rfl
          · exact ES.bad
        · split
          · rename_i x px y py a b hnn
            split
            · rename_i i j e1 e2
              split
              · rename_i h
                obtain ⟨h1, h2, h3⟩ := h
                have hsp : swPair X.env.scope x y px py a b = true := by rw [m.sc]; exact h3
                have hsp' := h3
                unfold swPair at hsp'
                simp only [Bool.and_eq_true, decide_eq_true_eq] at hsp'
                refine ES.par (m.cool h1).1 m.nd (m.idx e1) (m.idx e2) h2 (by rw [m.sc]; exact hsp'.1.1.1.1.1.1.1.2) (by rw [m.sc]; exact hsp'.1.1.1.1.1.1.2) (R.A m _) (swPair_ok hsp) (notComp_sole hc)
              · exact ES.bad
            · exact ES.bad
          · exact ES.bad
      · split
        · rename_i hn
          split
          · rename_i q hq
            exact ES.asg (R.E m _) (tgG_ok m hq) (notComp_sole hc) (noswap_v hn) rfl
          · exact ES.bad
        · exact ES.bad
    · exact ES.bad
  · split
    · rename_i h
      exact ES.asg (R.E m _) (EG.sub (R.E m _) (R.E m _) (asg_sub h.2)) (notComp_sole h.1) (noswap_t rfl) rfl
    · exact ES.bad
  · exact ES.bad
theorem stepS_ok (R : CpOk r) (m : Mt c T W X) (s : Stmt) : ES T W X s (stepS r c s) := by
  unfold stepS
  split
  · exact ES.pass
  · exact ES.brk
  · exact ES.cnt
  · split
    · exact ES.ret (R.E m _)
    · exact ES.retN
  · split
    · rename_i h
      exact ES.expr (R.E m _) (notComp_ok h)
    · exact ES.bad
  · exact ES.ite (R.B m _) (R.Ss m _) (R.Ss m _)
  · split
    · exact asg_ok R m _ _ _
    · exact ES.bad
  · split
    · split
      · rename_i h
        split
        · rename_i p hp
          have hc := m.cool h.1
          exact ES.for hc.2.2.2 hc.1 (R.I m _ _) (tgG_ok m hp) (R.Ss m _) (notSet_ok h.2)
        · exact ES.bad
      · exact ES.bad
    · exact ES.bad
  · split
    · split
      · rename_i h
        exact ES.while (m.cool h).2.2.2 (R.B m _) (R.Ss m _)
      · exact ES.bad
    · exact ES.bad
  · split
    · split
      · split
        · rename_i h
          obtain ⟨h0, hok, hl⟩ := h
          obtain ⟨h1, h2, h3⟩ := okName_ok hok
          split
          · rename_i e1
            obtain ⟨C, hm, q1, q2, q3, q4⟩ := m.gl _ _ e1
            have hc := m.cool h0
            refine ⟨_, L2N.ps_raise hc.1 hc.2.2.1 (L2N.pmk_own PySem.F.excBase_ValueError q1 hm q2 (raises_own q3 q4) (m.gx hl) h1), fun w δ σ E o s hp => ?_⟩
            exact hp w σ _ _ rfl (.refl _) o s ⟨C, hm, rfl, .inl ⟨rfl, rfl⟩⟩
          · exact ES.bad
        · exact ES.bad
      · exact ES.bad
    · exact ES.bad
  · exact ES.bad
theorem stepSs_ok (R : CpOk r) (m : Mt c T W X) (ss : List Stmt) : ESs T W X ss (stepSs r c ss) := by
  unfold stepSs
  split
  · exact ESs.nil
  · exact ESs.cons (stepS_ok R m _) (R.Ss m _)
end
theorem step_ok {r : Cp} (R : CpOk r) : CpOk (step r) := ⟨fun m e => stepE_ok R m e, fun m e => stepB_ok R m e, fun m e => stepA_ok R m e, fun m tg e => stepI_ok R m tg e, fun m ss => stepSs_ok R m ss⟩
theorem cp_ok : ∀ n, CpOk (cp n)
  | 0 => cpBad_ok
  | n + 1 => step_ok (cp_ok n)
end Pd
namespace Pd
open PySem PySem.Spec PyProof.Rows L2
/-! ### what is left behind a call -/
mutual
def belowD (n : Nat) : D → Bool
  | .ref k => decide (k < n)
  | .tup l => belowL n l
  | _ => true
def belowL (n : Nat) : List D → Bool
  | [] => true
  | d :: l => belowD n d && belowL n l
end
def belowF (n : Nat) : List (Str × D) → Bool
  | [] => true
  | p :: l => belowD n p.2 && belowF n l
def belowM (n : Nat) : MO → Bool
  | .lst l => belowL n l
  | .fz l => belowL n l
  | .ins _ fs => belowF n fs
  | .any => true
/-- the old part of M' is M's, but for things that name old things alone -/
def OldOk (M M' : Mem) : Prop := ∀ i m, i < M.length → M'[i]? = some m → M[i]? = some m ∨ belowM M.length m = true
open Classical in
noncomputable def gcV (M : Mem) (d : D) (M' : Mem) : Res D := if OldOk M M' then (if belowD M.length d = true then .ok d (M'.take M.length) else (match d with
    | .ref k => (match M'[k]? with
      | some (.lst l) => if M.length ≤ k ∧ belowL M.length l = true then .ok (.ref M.length) (M'.take M.length ++ [.lst l]) else .ok d M'
      | _ => .ok d M')
    | _ => .ok d M')) else .ok d M'
open Classical in
noncomputable def gcE (M : Mem) (x : Exn) (M' : Mem) : Res D := if OldOk M M' ∧ belowF M.length x.fs = true then .exc x (M'.take M.length) else .exc x M'
noncomputable def gcR (M : Mem) (r : Res D) : Res D := match r with
  | .ok d M' => gcV M d M'
  | .exc x M' => gcE M x M'
  | .bad => .bad
def toR : ResS → Res D
  | .nx _ M => .ok .non M
  | .rt d M => .ok d M
  | .exc x _ M => .exc x M
  | _ => .bad
noncomputable def fnOf (n : Nat) (den : DS) : List D → Mem → Res D := fun l M => gcR M (toR (den (l.map some ++ List.replicate (n - l.length) none) M))
section
variable {R : RC} {w w' : Wd}
mutual
theorem below_mono {n m : Nat} (h : n ≤ m) : ∀ d, belowD n d = true → belowD m d = true
  | .ref k, e => by
    unfold belowD at e ⊢
    have := of_decide_eq_true e
    exact decide_eq_true (by omega)
  | .tup l, e => by unfold belowD at e ⊢; exact belowL_mono h l e
  | .non, _ => rfl
  | .bl _, _ => rfl
  | .int _, _ => rfl
  | .str _, _ => rfl
  | .gl _, _ => rfl
  | .ty _, _ => rfl
  | .exn _ _, _ => rfl
theorem belowL_mono {n m : Nat} (h : n ≤ m) : ∀ l, belowL n l = true → belowL m l = true
  | [], _ => rfl
  | d :: l, e => by
    unfold belowL at e ⊢
    rw [Bool.and_eq_true] at e ⊢
    exact ⟨below_mono h d e.1, belowL_mono h l e.2⟩
end
/-- a world with the same heap, its lowest n things at the same places -/
structure Sub (n : Nat) (w w' : Wd) : Prop where
  len : n ≤ w'.M.length
  ρ : ∀ i, i < n → w'.ρ i = w.ρ i
  H : w'.H = w.H
mutual
theorem RelD.sub {n : Nat} (s : Sub n w w') : ∀ (d : D) (v : V), belowD n d = true → RelD R w d v → RelD R w' d v
  | .non, _, _, r => by unfold RelD at r ⊢; exact r
  | .bl _, _, _, r => by unfold RelD at r ⊢; exact r
  | .int _, _, _, r => by unfold RelD at r ⊢; exact r
  | .str _, _, _, r => by unfold RelD at r ⊢; exact r
  | .gl _, _, _, r => by unfold RelD at r ⊢; exact r
  | .ty _, _, _, r => by unfold RelD at r ⊢; exact r
  | .exn _ _, _, _, r => by unfold RelD at r ⊢; exact r
  | .ref k, _, b, r => by
    unfold RelD at r ⊢
    unfold belowD at b
    have := of_decide_eq_true b
    exact ⟨Nat.lt_of_lt_of_le this s.len, by rw [s.ρ k this]; exact r.2⟩
  | .tup l, _, b, r => by
    unfold RelD at r ⊢
    unfold belowD at b
    obtain ⟨a, xs, e, q, t⟩ := r
    exact ⟨a, xs, e, by rw [s.H]; exact q, RelL.sub s l xs b t⟩
theorem RelL.sub {n : Nat} (s : Sub n w w') : ∀ (l : List D) (xs : List V), belowL n l = true → RelL R w l xs → RelL R w' l xs
  | [], _, _, r => by unfold RelL at r ⊢; exact r
  | d :: l, _, b, r => by
    unfold RelL at r ⊢
    unfold belowL at b
    rw [Bool.and_eq_true] at b
    obtain ⟨x, q, e, h1, h2⟩ := r
    exact ⟨x, q, e, RelD.sub s d x b.1 h1, RelL.sub s l q b.2 h2⟩
end
theorem RelF.sub {n : Nat} (s : Sub n w w') : ∀ (l : List (Str × D)) (xs : List (Str × V)), belowF n l = true → RelF R w l xs → RelF R w' l xs
  | [], _, _, r => r
  | p :: l, _, b, r => by
    unfold belowF at b
    rw [Bool.and_eq_true] at b
    obtain ⟨q, r', e, a, h1, h2⟩ := r
    exact ⟨q, r', e, a, RelD.sub s _ _ b.1 h1, RelF.sub s l r' b.2 h2⟩
theorem RelM.sub {n : Nat} (s : Sub n w w') : ∀ (m : MO) (o : HO), belowM n m = true → RelM R w m o → RelM R w' m o
  | .lst l, _, b, ⟨xs, e, r⟩ => ⟨xs, e, RelL.sub s l xs b r⟩
  | .fz l, _, b, ⟨ob, xs, e, r⟩ => ⟨ob, xs, e, RelL.sub s l xs b r⟩
  | .ins C fs, _, b, ⟨Ca, dx, fv, g, e, r⟩ => ⟨Ca, dx, fv, g, e, RelF.sub s fs fv b r⟩
  | .any, _, _, h => h
mutual
theorem RelD.below : ∀ (d : D) (v : V), RelD R w d v → belowD w.M.length d = true
  | .non, _, _ => rfl
  | .bl _, _, _ => rfl
  | .int _, _, _ => rfl
  | .str _, _, _ => rfl
  | .gl _, _, _ => rfl
  | .ty _, _, _ => rfl
  | .exn _ _, _, _ => rfl
  | .ref k, _, r => by
    unfold RelD at r
    unfold belowD
    exact decide_eq_true r.1
  | .tup l, _, r => by
    unfold RelD at r
    unfold belowD
    obtain ⟨a, xs, e, q, t⟩ := r
    exact RelL.below l xs t
theorem RelL.below : ∀ (l : List D) (xs : List V), RelL R w l xs → belowL w.M.length l = true
  | [], _, _ => rfl
  | d :: l, _, r => by
    unfold RelL at r
    unfold belowL
    rw [Bool.and_eq_true]
    obtain ⟨x, q, e, h1, h2⟩ := r
    exact ⟨RelD.below d x h1, RelL.below l q h2⟩
end
theorem RelF.below : ∀ (l : List (Str × D)) (xs : List (Str × V)), RelF R w l xs → belowF w.M.length l = true
  | [], _, _ => rfl
  | p :: l, _, r => by
    unfold belowF
    rw [Bool.and_eq_true]
    obtain ⟨q, r', e, a, h1, h2⟩ := r
    exact ⟨RelD.below _ _ h1, RelF.below l r' h2⟩
theorem RelM.below : ∀ (m : MO) (o : HO), RelM R w m o → belowM w.M.length m = true
  | .lst l, _, ⟨xs, e, r⟩ => RelL.below l xs r
  | .fz l, _, ⟨ob, xs, e, r⟩ => RelL.below l xs r
  | .ins C fs, _, ⟨Ca, dx, fv, g, e, r⟩ => RelF.below fs fv r
  | .any, _, _ => rfl
/-- the old part alone -/
theorem gc_take (o : w.Ok R) (l : w.le w') (o' : w'.Ok R) (h : OldOk w.M w'.M) : ∃ w2 : Wd, w2.M = w'.M.take w.M.length ∧ w2.H = w'.H ∧ w.le w2 ∧ w2.Ok R ∧ Sub w.M.length w' w2 := by
  have hl : (w'.M.take w.M.length).length = w.M.length := by rw [List.length_take]; have := l.len; omega
  have s : Sub w.M.length w' ⟨w'.ρ, w'.M.take w.M.length, w'.H, w'.cp⟩ := ⟨by show _ ≤ (w'.M.take w.M.length).length; omega, fun _ _ => rfl, rfl⟩
  refine ⟨⟨w'.ρ, w'.M.take w.M.length, w'.H, w'.cp⟩, rfl, rfl, ⟨by show _ ≤ (w'.M.take w.M.length).length; omega, l.ρ, l.fr⟩, ⟨fun n m e => ?_, fun i j hi hj e => ?_, o'.cod, fun n c q hn hc => ?_, o'.tab⟩, s⟩
  · have e' : (w'.M.take w.M.length)[n]? = some m := e
    have hn : n < w.M.length := by have := (List.getElem?_eq_some_iff.mp e').1; omega
    rw [List.getElem?_take_of_lt hn] at e'
    obtain ⟨u, h1, r, nt⟩ := o'.at_ n m e'
    refine ⟨u, h1, RelM.sub s m u ?_ r, nt⟩
    rcases h n m hn e' with q | q
    · obtain ⟨u', _, r', _⟩ := o.at_ n m q
      exact r'.below
    · exact q
  · have hi' : i < (w'.M.take w.M.length).length := hi
    have hj' : j < (w'.M.take w.M.length).length := hj
    have := l.len
    exact o'.inj i j (by omega) (by omega) e
  · have hn' : n < (w'.M.take w.M.length).length := hn
    have := l.len
    exact o'.sep n c q (by omega) hc
/-- the old part and a new list -/
theorem gc_snoc (o : w.Ok R) (l : w.le w') (o' : w'.Ok R) (h : OldOk w.M w'.M) {k : Nat} {L : List D} (hk : w.M.length ≤ k) (hL : w'.M[k]? = some (.lst L)) (hb : belowL w.M.length L = true) :
    ∃ w2 : Wd, w2.M = w'.M.take w.M.length ++ [.lst L] ∧ w2.H = w'.H ∧ w.le w2 ∧ w2.Ok R ∧ w2.ρ w.M.length = w'.ρ k := by
  have hl : (w'.M.take w.M.length).length = w.M.length := by rw [List.length_take]; have := l.len; omega
  have hkl : k < w'.M.length := (List.getElem?_eq_some_iff.mp hL).1
  have lE : (w'.M.take w.M.length ++ [MO.lst L]).length = w.M.length + 1 := by rw [List.length_append, hl]; rfl
  obtain ⟨ρ2, self, old⟩ : ∃ ρ2 : Nat → Addr, ρ2 w.M.length = w'.ρ k ∧ ∀ i, i < w.M.length → ρ2 i = w'.ρ i := ⟨fun i => if i = w.M.length then w'.ρ k else w'.ρ i, if_pos rfl, fun i hi => if_neg (by omega)⟩
  have s : Sub w.M.length w' ⟨ρ2, w'.M.take w.M.length ++ [.lst L], w'.H, w'.cp⟩ := ⟨by show _ ≤ (w'.M.take w.M.length ++ [MO.lst L]).length; omega, old, rfl⟩
  refine ⟨⟨ρ2, w'.M.take w.M.length ++ [.lst L], w'.H, w'.cp⟩, rfl, rfl, ⟨by show _ ≤ (w'.M.take w.M.length ++ [MO.lst L]).length; omega, fun i hi => (old i hi).trans (l.ρ i hi), l.fr⟩, ⟨fun n m e => ?_, fun i j hi hj e => ?_, o'.cod, fun n c q hn hc => ?_, o'.tab⟩, self⟩
  · have e' : (w'.M.take w.M.length ++ [MO.lst L])[n]? = some m := e
    by_cases hn : n < w.M.length
    · rw [List.getElem?_append_left (by omega), List.getElem?_take_of_lt hn] at e'
      obtain ⟨u, h1, r, nt⟩ := o'.at_ n m e'
      refine ⟨u, by show w'.H (ρ2 n) = _; rw [old n hn]; exact h1, RelM.sub s m u ?_ r, nt⟩
      rcases h n m hn e' with q | q
      · obtain ⟨u', _, r', _⟩ := o.at_ n m q
        exact r'.below
      · exact q
    · have hn2 : n = w.M.length := by have := (List.getElem?_eq_some_iff.mp e').1; omega
      subst hn2
      rw [List.getElem?_append_right (by omega), hl, Nat.sub_self] at e'
      have em : MO.lst L = m := Option.some.inj e'
      subst em
      obtain ⟨u, h1, r, nt⟩ := o'.at_ k _ hL
      exact ⟨u, by show w'.H (ρ2 w.M.length) = _; rw [self]; exact h1, RelM.sub s _ u hb r, nt⟩
  · have hi' : i < (w'.M.take w.M.length ++ [MO.lst L]).length := hi
    have hj' : j < (w'.M.take w.M.length ++ [MO.lst L]).length := hj
    have e : ρ2 i = ρ2 j := e
    have := l.len
    by_cases a : i = w.M.length <;> by_cases b : j = w.M.length
    · omega
    · subst a
      rw [self, old j (by omega)] at e
      have := o'.inj k j hkl (by omega) e
      omega
    · subst b
      rw [self, old i (by omega)] at e
      have := o'.inj i k (by omega) hkl e
      omega
    · rw [old i (by omega), old j (by omega)] at e
      exact o'.inj i j (by omega) (by omega) e
  · have hn' : n < (w'.M.take w.M.length ++ [MO.lst L]).length := hn
    show ρ2 n ≠ c
    have := l.len
    by_cases a : n = w.M.length
    · subst a
      rw [self]
      exact o'.sep k c q hkl hc
    · rw [old n (by omega)]
      exact o'.sep n c q (by omega) hc
/-- from the cleared result back to the body's -/
theorem gc_post {W : WX} {σ : St} {Q : VK} {E : XK} (hW : ∀ c d σ H, E c d H → W c d σ H) (o : w.Ok R) : ∀ {r : ResS}, Post R (fun c d _ H' => E c d H') w σ (RelD R) Q (gcR w.M (toR r)) →
    PostS R W w { nx := fun _ H' => Q .non H', rt := Q } r
  | .nx δ M', h => fun w' σ' e l o' s => by
    subst e
    have h : Post R (fun c d _ H' => E c d H') w σ (RelD R) Q (gcV w.M .non w'.M) := h
    have hd : belowD w.M.length .non = true := rfl
    unfold gcV at h
    split at h
    · rename_i ho
      obtain ⟨w2, e2, eH, l2, o2, s2⟩ := gc_take o l o' ho
      have := h w2 .non e2 l2 o2 (by unfold RelD; rfl)
      rw [eH] at this
      exact this
    · exact h w' .non rfl l o' (by unfold RelD; rfl)
  | .rt d M', h => fun w' v e l o' r => by
    subst e
    have h : Post R (fun c d _ H' => E c d H') w σ (RelD R) Q (gcV w.M d w'.M) := h
    unfold gcV at h
    split at h
    · rename_i ho
      split at h
      · rename_i hd
        obtain ⟨w2, e2, eH, l2, o2, s2⟩ := gc_take o l o' ho
        have := h w2 v e2 l2 o2 (RelD.sub s2 d v hd r)
        rw [eH] at this
        exact this
      · split at h
        · rename_i k hk0
          split at h
          · rename_i L hL
            split at h
            · rename_i hk
              obtain ⟨w2, e2, eH, l2, o2, s2⟩ := gc_snoc o l o' ho hk.1 hL hk.2
              have := h w2 v e2 l2 o2 (by
                unfold RelD at r ⊢
                refine ⟨by rw [e2, List.length_append, List.length_take]; have := l.len; simp; omega, by rw [s2]; exact r.2⟩)
              rw [eH] at this
              exact this
            · exact h w' v rfl l o' r
          · exact h w' v rfl l o' r
        · exact h w' v rfl l o' r
    · exact h w' v rfl l o' r
  | .exc x δ M', h => fun w' σ' cls dx e l o' s r => by
    subst e
    have h : Post R (fun c d _ H' => E c d H') w σ (RelD R) Q (gcE w.M x w'.M) := h
    unfold gcE at h
    refine hW _ _ _ _ ?_
    split at h
    · rename_i ho
      obtain ⟨w2, e2, eH, l2, o2, s2⟩ := gc_take o l o' ho.1
      have := h w2 cls dx e2 l2 o2 (by
        obtain ⟨C, k1, k2, k3⟩ := r
        refine ⟨C, k1, k2, ?_⟩
        rcases k3 with k3 | ⟨k6, d, fv, k3, k4, k5⟩
        · exact .inl k3
        · exact .inr ⟨k6, d, fv, k3, by rw [eH]; exact k4, RelF.sub s2 _ _ ho.2 k5⟩)
      rw [eH] at this
      exact this
    · exact h w' cls dx rfl l o' r
  | .bk δ M', h => False.elim h
  | .ct δ M', h => False.elim h
  | .bad, h => False.elim h
end
/-! ### the rule for a def -/
theorem SRel.start {R : RC} {w : Wd} {N : List Str} {l : List D} {vs : List V} (r : RelL R w l vs) : SRel R w (l.map some ++ List.replicate (N.length - l.length) none) (L2.start N vs) := by
  have hl := r.length
  refine ⟨?_, fun i d e => ?_⟩
  · unfold L2.start
    rw [List.length_append, List.length_append, List.length_map, List.length_map, List.length_replicate, List.length_replicate, hl]
  · unfold L2.start
    by_cases hi : i < l.length
    · rw [List.getElem?_append_left (by rw [List.length_map]; exact hi), List.getElem?_map] at e
      rw [List.getElem?_append_left (by rw [List.length_map, hl]; exact hi), List.getElem?_map]
      cases c : l[i]? with
      | none => rw [c] at e; cases e
      | some d' =>
        rw [c] at e
        cases e
        obtain ⟨x, hx, rx⟩ := r.get c
        exact ⟨x, by rw [hx]; rfl, rx⟩
    · rw [List.getElem?_append_right (by rw [List.length_map]; omega), List.length_map, List.getElem?_replicate] at e
      split at e <;> cases e
section
variable {T : TB} {P : Program} {w : World} {K : PySem.W.Frag} {mg : Str → Option Value} {base : Heap} {x : Str} {params : Arguments} {body : List Stmt} {scope : Scope} {f : Addr} {fd : FuncData} {N ps : List Str} {lv n : Nat} {G : List (Str × GD)}
theorem fn_okF (F : FunD K x x params body scope [] [] f fd) (S : FnScope N ps scope) (hG : ∀ x g, G.lookup x = some g → GdOk T lv P w K mg base x g) {den : DS}
    (hden : (cp n).Ss ⟨N, scope, fun _ => true, false, lv, 0, 0, "", fun _ _ => none, G⟩ body = den) : FnOk P w K mg base (L2N.CX P w) (lv + 1) f fd ps (spOf ⟨K, mg, T⟩ ps.length (fnOf N.length den)) := by
  refine F.ok S (fun vs H Q E h => ?_) (fun cdv A outer s H vs Q E hr h => ?_)
  · obtain ⟨wd, l, _, _, r, hl, _⟩ := h
    rw [r.length, hl]
  · have m : Mt ⟨N, scope, fun _ => true, false, lv, 0, 0, "", fun _ _ => none, G⟩ T (fun c d _ H' => E c d H') (cxOf (L2N.CX P w) P w K mg base N x scope f cdv A outer s H E) :=
      ⟨rfl, S.nd, rfl, fun _ _ => rfl, by
        have := hr.un
        show (A.deeper (envOfC x scope s.heap.objs.size f cdv)).units + 65 < cLine
        omega, hG, fun _ => ⟨rfl, hr, L2N.takes_of rfl rfl rfl rfl, passes_of rfl⟩, (fun h => by cases h), (fun _ _ _ h => by cases h), fun h => by cases h⟩
    obtain ⟨t, ht, hq⟩ := (cp_ok n).Ss m body
    rw [hden] at hq
    refine ⟨t, ht, ?_⟩
    obtain ⟨wd, l, rfl, o, r, hl, hp⟩ := h
    refine hq wd _ _ _ o (SRel.start (N := N) r) (gc_post (σ := []) (fun _ _ _ _ h => h) o hp)
theorem fn_ok (F : FunD K x x params body scope [] [] f fd) (S : FnScope N ps scope) (hG : ∀ x g, G.lookup x = some g → GdOk T lv P w K mg base x g) (hg : mg x = some (.ref f)) {den : DS}
    (hden : (cp n).Ss ⟨N, scope, fun _ => true, false, lv, 0, 0, "", fun _ _ => none, G⟩ body = den)
    (hbind : ∀ (kV doc pm : Value) (an : Option Addr) (cdv ct : Value) (us : List Value), us.length = ps.length → bindArgs (PySem.W.fnOf x x params body scope .none kV doc pm an cdv ct) ⟨us, []⟩ = pure (ps.zip us)) :
    GdOk T (lv + 1) P w K mg base x (.fn ps.length (fnOf N.length den)) := ⟨f, fd, lv + 1, ps, Nat.le_refl _, hg, fn_okF F S hG hden, F.kp, F.bindsN hbind⟩
/-- a def that makes lambdas -/
theorem fn_okLF {cc Pt : Addr} (F : FunD K x x params body scope [] [] f fd) (S : FnScope N ps scope) (hG : ∀ x g, G.lookup x = some g → GdOk T lv P w K mg base x g) {den : DS}
    (hcode : fd.code = .ref cc) (TBx : LamX.TabB base mg cc Pt) (hmT : (Pt, x ++ ".<locals>." ++ "<lambda>") ∈ T.tabs) (hu : ∀ p ∈ T.tabs, p.1 = Pt → p.2 = x ++ ".<locals>." ++ "<lambda>")
    (hden : (cp n).Ss ⟨N, scope, fun _ => true, false, lv, 2, 0, "", fun _ _ => none, G⟩ body = den) : FnOk P w K mg base (L2N.CX P w) (lv + 3) f fd ps (spOf ⟨K, mg, T⟩ ps.length (fnOf N.length den)) := by
  obtain ⟨oc, od, dV, kV, doc, pm, an, cdv, ct, osl, rfl, lk, hcd, _, _⟩ := F.ex
  refine fn_of lk hcd S (fun vs H Q E h => ?_) (fun A outer s H vs Q E hr h => ?_)
  · obtain ⟨wd, l, _, _, r, hl, _⟩ := h
    rw [r.length, hl]
  · have m : Mt ⟨N, scope, fun _ => true, false, lv, 2, 0, "", fun _ _ => none, G⟩ T (fun c d _ H' => E c d H') (cxOf (L2N.CX P w) P w K mg base N x scope f cdv A outer s H E) :=
      ⟨rfl, S.nd, rfl, fun _ _ => rfl, by
        have := hr.un
        show (A.deeper (envOfC x scope s.heap.objs.size f cdv)).units + 65 < cLine
        omega, hG, fun _ => ⟨rfl, hr, L2N.takes_of rfl rfl rfl rfl, passes_of rfl⟩, (fun h => by cases h), (fun _ _ _ h => by cases h), fun h => ⟨cc, Pt, hcode, TBx, hmT, hu⟩⟩
    obtain ⟨t, ht, hq⟩ := (cp_ok n).Ss m body
    rw [hden] at hq
    refine ⟨t, ht, ?_⟩
    obtain ⟨wd, l, rfl, o, r, hl, hp⟩ := h
    refine hq wd _ _ _ o (SRel.start (N := N) r) (gc_post (σ := []) (fun _ _ _ _ h => h) o hp)
theorem fn_okL {cc Pt : Addr} (F : FunD K x x params body scope [] [] f fd) (S : FnScope N ps scope) (hG : ∀ x g, G.lookup x = some g → GdOk T lv P w K mg base x g) (hg : mg x = some (.ref f)) {den : DS}
    (hcode : fd.code = .ref cc) (TBx : LamX.TabB base mg cc Pt) (hmT : (Pt, x ++ ".<locals>." ++ "<lambda>") ∈ T.tabs) (hu : ∀ p ∈ T.tabs, p.1 = Pt → p.2 = x ++ ".<locals>." ++ "<lambda>")
    (hden : (cp n).Ss ⟨N, scope, fun _ => true, false, lv, 2, 0, "", fun _ _ => none, G⟩ body = den)
    (hbind : ∀ (kV doc pm : Value) (an : Option Addr) (cdv ct : Value) (us : List Value), us.length = ps.length → bindArgs (PySem.W.fnOf x x params body scope .none kV doc pm an cdv ct) ⟨us, []⟩ = pure (ps.zip us)) :
    GdOk T (lv + 3) P w K mg base x (.fn ps.length (fnOf N.length den)) := ⟨f, fd, lv + 3, ps, Nat.le_refl _, hg, fn_okLF F S hG hcode TBx hmT hu hden, F.kp, F.bindsN hbind⟩
end
end Pd
namespace Pd
open PySem PySem.Spec PyProof.Rows L2
/-! ### a def that tells of the exception it is given, called in an except suite -/
def ErrOk (T : TB) (lv : Nat) (P : Program) (w : World) (K : PySem.W.Frag) (mg : Str → Option Value) (base : Heap) (x : Str) (κ : Str → Mem → Res D) : Prop :=
  ∃ (f : Addr) (fd : FuncData) (k : Nat) (a : Str), k ≤ lv ∧ mg x = some (.ref f) ∧ PySem.W.keepIn K (.ref f) = true ∧ Binds K fd [a] [] ∧
    ∀ (A : Around) (outer : List Env) (s : Shared) (wd : Wd) (e : Addr) (o : Obj) (cn : Str) (C : Addr) (args : Args) (Q : VK) (E : XK), L2H.RoomH k A → L2H.Hot1 A (e, o) → L2H.PinOk outer wd.H s (e, o) → Env0 P w K mg base A outer s wd.H →
      BindsTo s fd args [(a, .ref e)] → mg cn = some (.ref C) → o.cls = .ref C → o.dict = none → ExcC K C → wd.Ok ⟨K, mg, T⟩ → Post ⟨K, mg, T⟩ (fun _ _ _ _ => False) wd [] (RelD ⟨K, mg, T⟩) Q (κ cn wd.M) →
      codeAny (model P w) A (.call (.ref f) args) (CR (L2N.CX P w) outer P w wd.H s Q E) s
section
variable {T : TB} {P : Program} {w : World} {K : PySem.W.Frag} {mg : Str → Option Value} {base : Heap} {x a : Str} {params : Arguments} {body : List Stmt} {scope : Scope} {f : Addr} {fd : FuncData} {N : List Str} {lv n : Nat} {G : List (Str × GD)} {isx : Str → Str → Option Bool}
theorem err_ok (F : FunD K x x params body scope [] [] f fd) (S : FnScope N [a] scope) (hG : ∀ x g, G.lookup x = some g → GdOk T lv P w K mg base x g) (hg : mg x = some (.ref f))
    (hisx : ∀ x y b, isx x y = some b → ∃ D, mg y = some (.ref D) ∧ ∀ C, mg x = some (.ref C) → PySem.W.kitOne K (.ref C) (.ref D) = some b)
    {den : Addr → Str → DS} {κ : Str → Mem → Res D} (hden : ∀ e cn, (cp n).Ss ⟨N, scope, fun _ => true, true, lv, 0, e, cn, isx, G⟩ body = den e cn) (hκ : ∀ e cn M, κ cn M ≠ .bad → fnOf N.length (den e cn) [.exn e cn] M = κ cn M)
    (hbind : ∀ (kV doc pm : Value) (an : Option Addr) (cdv ct : Value) (us : List Value), us.length = [a].length → bindArgs (PySem.W.fnOf x x params body scope .none kV doc pm an cdv ct) ⟨us, []⟩ = pure ([a].zip us)) :
    ErrOk T (lv + 1) P w K mg base x κ := by
  have hB := F.bindsN hbind
  obtain ⟨oc, od, dV, kV, doc, pm, an, cdv, ct, osl, e0, lk, hcd, _, _⟩ := F.ex
  subst e0
  refine ⟨f, _, lv + 1, a, Nat.le_refl _, hg, F.kp, hB, fun A outer s wd e o cn C args Q E hr hot pin e0 hb hC oc od ec ok post => ?_⟩
  have kin : K.In s.heap := e0.mod.kin.keeps fun b o z => (e0.bs b o z).1
  have nolim : s.heap.NoLimit := e0.mod.nolimit.keeps fun b o z => (e0.bs b o z).1
  have kinds : ∀ y ∈ [a].zip [Value.ref e], scope.names.lookup y.1 = some .local ∨ (scope.names.lookup y.1 = some .cell ∧ ((cellsFrom (s.heap.objs.size + 1) scope.names []).lookup y.1).isSome = true) := fun ⟨n, v⟩ hy =>
    (S.par n (List.of_mem_zip hy).1).elim .inl fun q => .inr ⟨q, PySem.W.cellsFrom_some _ _ _ (.inl q)⟩
  apply codeAny_call_function hr.depth (kin _ _ lk) rfl S.co S.gen rfl (PySem.W.codeRec_of kin hcd)
  apply hb
  refine wpAny_newFunctionEnv_cells S.kind kinds fun env he s1 y => ?_
  subst he
  refine ⟨nolim.keeps y.toInCall.keep, codeAny_func ?_⟩
  have I := L2H.inv_startH (CX := L2N.CX P w) (E := E) (us := [.ref e]) (vs := [V.ref e]) S pin e0 rfl (.cons rfl .nil) y
  obtain ⟨hd, vs0, d0, c0⟩ := hot
  have hots : HotS e cn (L2H.cxH (L2N.CX P w) P w K mg base N x scope f cdv A outer s wd.H E (e, o)) := ⟨hd, ⟨o, vs0, C, pin.get, d0, c0, hC, oc, od, ec⟩, pin.free, pin.nofs, fun z => nomatch (show e ∈ ([] : List Addr) from z)⟩
  have m : Mt ⟨N, scope, fun _ => true, true, lv, 0, e, cn, isx, G⟩ T WF (L2H.cxH (L2N.CX P w) P w K mg base N x scope f cdv A outer s wd.H E (e, o)) :=
    ⟨rfl, S.nd, rfl, fun _ _ => rfl, by
      have := (hr.deeper (envOfC x scope s.heap.objs.size f cdv)).un
      show (A.deeper (envOfC x scope s.heap.objs.size f cdv)).units + 65 < cLine
      omega, hG, (fun h => by cases h), (fun _ => hots), hisx, fun h => by cases h⟩
  obtain ⟨t, ht, hq⟩ := (cp_ok n).Ss m body
  rw [hden] at hq
  have rl : RelL ⟨K, mg, T⟩ wd [D.exn e cn] [V.ref e] := .cons (by unfold RelD; rfl) .nil
  have nb : κ cn wd.M ≠ .bad := fun z => by rw [z] at post; exact post
  rw [← hκ e cn wd.M nb] at post
  have go := hq wd _ _ _ ok (SRel.start (N := N) rl) (gc_post (σ := []) (W := WF) (E := fun _ _ _ => False) (Q := Q) (fun _ _ _ _ h => h) ok post)
  refine wpAny_mono (ht.run [] s1 (L2.start N [V.ref e]) wd.H _ I go) (fun fl s' hs => ?_) fun e s' hs => hs
  cases fl with
  | ret u =>
    obtain ⟨v, σ', H', J, rv, q⟩ := hs
    exact ⟨v, H', J.os, J.bare, J.base, J.hok, rv, q⟩
  | next =>
    obtain ⟨σ', H', J, q⟩ := hs
    exact ⟨V.non, H', J.os, J.bare, J.base, J.hok, rfl, q⟩
  | brk => exact hs.elim fun _ h => h.elim fun _ h => h.2.elim
  | cont => exact hs.elim fun _ h => h.elim fun _ h => h.2.elim
end
end Pd
namespace Pd
open PySem PySem.Spec PyProof.Rows L2
/-! ### the def that calls a lambda and tells how it was refused -/
def kRes (z : Option Str) (M : Mem) : Res D := match z with
  | some z => .ok (.str z) M
  | none => .bad
/-- F of such a def: k tells of a class -/
def refF (z : Str) (k : Str → Option Str) (r : Res D) (_ : Mem) : Res D := match r with
  | .ok _ M => .ok (.str z) M
  | .exc x M => if x.fs = [] then kRes (k x.cls) M else .bad
  | .bad => .bad
section
variable {T : TB} {P : Program} {w : World} {K : PySem.W.Frag} {mg : Str → Option Value} {base : Heap} {x a v hx er z : Str} {k : Str → Option Str} {params : Arguments} {scope : Scope} {f CS : Addr} {fd : FuncData} {N : List Str} {lv j : Nat} {p1 p2 p3 p4 p5 p6 p7 p8 p9 p10 p11 p12 : Pos}
/-- the suite's call -/
theorem pe_tell {X : Cx} {ea : Addr} {oe : Obj} {cls : Value} {d : Option Addr} {pn : List (Addr × Obj)} {i : Nat} (he : ErrOk T lv X.prog X.w X.K X.mg X.base er fun cn M => kRes (k cn) M) (hr : Room lv X.A) (hge : Gl X er) (hN : X.N[i]? = some v) (hv : Vis X.env.scope v)
    (hz : L2N.Zn cls d oe) (hf : ∃ vs, oe.data = .fields vs) (d1 : (er == ("__debug__" : Str)) = false) (d2 : (v == ("__debug__" : Str)) = false) (d3 : (v == ("__classdict__" : Str)) = false) :
    PE (X.suite ea ((ea, oe) :: pn)) (.Call (.Name er p5) [.Name v p6] [] p7) (fun σ H Q => ∃ (wd : Wd) (cn : Str) (C : Addr), wd.H = H ∧ wd.Ok (rc T X) ∧ cls = .ref C ∧ d = none ∧ X.mg cn = some (.ref C) ∧ ExcC X.K C ∧ σ[i]? = some (some (.ref ea)) ∧
      Post (rc T X) (fun _ _ _ _ => False) wd [] (RelD (rc T X)) Q (kRes (k cn) wd.M)) := by
  obtain ⟨g, gd, k0, b, hk0, hm, kp, hb, run⟩ := he
  refine ⟨fun pins s σ H Q I ⟨wd, cn, C, eH, ok, ec, ed, hC, xc, hs, post⟩ => ?_⟩
  subst eH
  refine wpAny_Call_Name_kw (ld_glob (X := X.suite ea ((ea, oe) :: pn)) I hge hm ?go d1)
  have pa := pa_cons (pe_var (X := X.suite ea ((ea, oe) :: pn)) (pos := p6) hN hv d2 d3) (pa_nil (X := X.suite ea ((ea, oe) :: pn)))
  have ha := pa.run p7 pins s σ wd.H (fun vs H1 => vs = [.ref ea] ∧ H1 = wd.H) I ⟨.ref ea, hs, rfl, rfl⟩
  refine PySem.W.callWith_K (h₀ := X.base) I.ok.mod.kin kp (thn ha fun us s1 ⟨vs, H1, I1, rv, q⟩ => ⟨I1.kIn, ?_⟩) (by rfl) (by rfl)
  obtain ⟨ev, eH⟩ := q
  subst ev eH
  have eu : us = [Value.ref ea] := by
    cases rv with
    | cons r1 r2 =>
      cases r2
      obtain rfl := r1
      rfl
  subst eu
  have bnd := hb s1 [Value.ref ea] I1.kIn rfl
  obtain ⟨vs0, hd0⟩ := hf
  have pin1 := I1.pin (ea, oe) (List.mem_append_left _ List.mem_cons_self)
  have nofs : ea ∉ frs X.stack := fun hm => by
    rcases List.mem_cons.mp (I1.stkSub ea hm) with e | e
    · exact pin1.2.2.1 e
    · exact pin1.2.2.2.1 e
  have roomy : L2H.RoomH k0 (X.suite ea ((ea, oe) :: pn)).A := ⟨(hr.mono hk0).dp, (hr.mono hk0).un⟩
  refine wpAny_call (codeAny_mono (run (X.suite ea ((ea, oe) :: pn)).A X.stack s1 wd ea oe cn C ⟨[Value.ref ea], []⟩ Q (fun _ _ _ => False) roomy ⟨rfl, vs0, hd0, hz.2.2 vs0 hd0⟩ ⟨pin1.1, pin1.2.1, nofs, pin1.2.2.2.2⟩ I1.env0 bnd hC (by rw [hz.1, ec]) (by rw [hz.2.1, ed]) xc ok post) fun r s' hq => ?_)
  cases r with
  | error e =>
    obtain ⟨_, _, _, _, _, _, _, _, _, _, _, _, z⟩ := hq
    exact z.elim
  | ok fl =>
    cases fl with
    | ret u => exact I1.after hq
    | next => exact hq.elim
    | brk => exact hq.elim
    | cont => exact hq.elim
theorem refused_ok (F : FunD K x x params [.Try [.Expr (.Call (.Name a p1) [] [] p2) p3] [.ExceptHandler (some (.Name hx p4)) (some v) [.Return (some (.Call (.Name er p5) [.Name v p6] [] p7)) p8] p9] [] [] p10, .Return (some (.Constant (.str z) j p11)) p12] scope [] [] f fd)
    (S : FnScope N [a] scope) (hN : N[1]? = some v) (hln : scope.names.lookup v = some .local) (hg : mg x = some (.ref f)) (hgx : scope.names.lookup hx = some .globalImplicit) (hge : scope.names.lookup er = some .globalImplicit) (hmx : mg hx = some (.ref CS))
    (he : ErrOk T lv P w K mg base er fun cn M => kRes (k cn) M) (hk : ∀ cn, k cn ≠ none → ∀ C, mg cn = some (.ref C) → PySem.W.exmOne K (.ref C) (.ref CS) = some true ∧ ExcC K C)
    (hbind : ∀ (kV doc pm : Value) (an : Option Addr) (cdv ct : Value) (us : List Value), us.length = [a].length → bindArgs (PySem.W.fnOf x x params [.Try [.Expr (.Call (.Name a p1) [] [] p2) p3] [.ExceptHandler (some (.Name hx p4)) (some v) [.Return (some (.Call (.Name er p5) [.Name v p6] [] p7)) p8] p9] [] [] p10, .Return (some (.Constant (.str z) j p11)) p12] scope .none kV doc pm an cdv ct) ⟨us, []⟩ = pure ([a].zip us))
    (hva : Vis scope a) (d0 : (a == ("__debug__" : Str)) = false) (d0' : (a == ("__classdict__" : Str)) = false) (d1 : (er == ("__debug__" : Str)) = false) (d2 : (v == ("__debug__" : Str)) = false) (d3 : (v == ("__classdict__" : Str)) = false) (d4 : (hx == ("__debug__" : Str)) = false) :
    HofOk T lv P w K mg base x (refF z k) := by
  have hB := F.bindsN hbind
  obtain ⟨oc, od, dV, kV, doc, pm, an, cdv, ct, osl, e0, lk, hcd, _, _⟩ := F.ex
  subst e0
  have h0 : N[0]? = some a := by
    have e := S.pre
    cases N with
    | nil => cases e
    | cons b l =>
      have e2 : [b] = [a] := e
      cases e2
      rfl
  refine ⟨f, a, params, _, scope, dV, kV, doc, pm, cdv, ct, oc, an, od, osl, N, lv, Nat.le_refl _, hg, F.kp, lk, hcd, hB, S, h0, hva, d0, d0', fun A stack g s wd Q E r hr ok act post => ?_⟩
  generalize hX : cxOf (L2N.CX P w) P w K mg base N x scope f cdv A stack s wd.H E = X at act ⊢
  have x1 : X.prog = P := by rw [← hX]; rfl
  have x2 : X.w = w := by rw [← hX]; rfl
  have x3 : X.K = K := by rw [← hX]; rfl
  have x4 : X.mg = mg := by rw [← hX]; rfl
  have x5 : X.base = base := by rw [← hX]; rfl
  have x6 : X.N = N := by rw [← hX]; rfl
  have x7 : X.env.scope = scope := by rw [← hX]; rfl
  have x8 : X.stack = X.env :: X.outer := by rw [← hX]; rfl
  have x9 : X.env.frame = some X.env.locals := by rw [← hX]; rfl
  have x10 : Room lv X.A := by rw [← hX]; exact hr
  have tk : L2N.Takes X fun c d _ H => E c d H := by rw [← hX]; exact L2N.takes_of rfl rfl rfl rfl
  subst x1 x2 x3 x4 x5 x6 x7
  have tr := L2N.ps_try_as (X := X) (x := hx) (n := v) (c := .ref CS) (i := 1) (np := p4) (pos := p10) (pos' := p9) (Wout := fun c d _ H => E c d H) (body := [.Expr (.Call (.Name a p1) [] [] p2) p3]) (b₀ := .Return (some (.Call (.Name er p5) [.Name v p6] [] p7)) p8) (suite := [])
    (tb := fun W D σ H => σ[0]? = some (some (.ref g)) ∧ H = wd.H ∧ Post (rc T X) (fun c d _ H' => W c d σ H') wd [] (RelD (rc T X)) (fun _ H' => D.nx σ H') r)
    (ts := fun ea cls d D σ H => ∃ (wd : Wd) (cn : Str) (C : Addr), wd.H = H ∧ wd.Ok (rc T X) ∧ cls = .ref C ∧ d = none ∧ X.mg cn = some (.ref C) ∧ ExcC X.K C ∧ σ[1]? = some (some (.ref ea)) ∧ Post (rc T X) (fun _ _ _ _ => False) wd [] (RelD (rc T X)) D.rt (kRes (k cn) wd.M))
    x8 x9 S.nd hN hln ⟨hgx, d4, .inl hmx⟩ tk (fun W pn xe tk' _ => ?body) (fun ea oe cls d pn zn hf => ?suite)
  case body =>
    have pe := act W pn xe p1 p2 tk'
    exact pss_one (ps_expr (pos := p3) pe (notComp_ok rfl))
  case suite =>
    exact pss_one (ps_ret (pos := p8) (pe_tell (p5 := p5) (p6 := p6) (p7 := p7) he x10 hge hN (.inl hln) zn hf d1 d2 d3))
  refine ⟨_, pss_cons tr (pss_one (ps_ret (pos := p12) (pe_str (pos := p11)))), ?_⟩
  refine ⟨rfl, rfl, ?_⟩
  cases r with
  | bad => exact post
  | ok d M1 => exact fun w' b e l o q => post w' (.str z) e l o (by unfold RelD; rfl)
  | exc e M1 =>
    have post : Post (rc T X) (fun c d _ H' => E c d H') wd [] (RelD (rc T X)) Q (if e.fs = [] then kRes (k e.cls) M1 else .bad) := post
    split at post
    · rename_i hfs
      cases hkc : k e.cls with
      | none => rw [hkc] at post; exact post.elim
      | some y =>
        rw [hkc] at post
        intro w' cls dx em l o ⟨C, hC, ecls, hd⟩
        have hd0 : dx = none := by
          rcases hd with h | h
          · exact h.2
          · exact absurd hfs h.1
        obtain ⟨q1, q2⟩ := hk e.cls (by rw [hkc]; exact fun z => nomatch z) C hC
        refine ⟨true, by rw [ecls]; exact q1, fun _ ea na => ⟨w', e.cls, C, rfl, o, ecls, hd0, hC, q2, ?_, ?_⟩, fun h => by cases h⟩
        · have hl : 1 < (L2.start X.N [V.ref g]).length := by
            have := (List.getElem?_eq_some_iff.mp hN).1
            unfold L2.start
            rw [List.length_append, List.length_replicate]
            show 1 < 1 + (X.N.length - 1)
            omega
          rw [List.getElem?_set_self hl]
        · rw [hkc, em]
          exact fun w2 b e2 l2 o2 q => post w2 b e2 (l.trans l2) o2 q
    · exact post.elim
end
end Pd
namespace Pd
open PySem PySem.Spec PyProof.Rows L2
/-! ### what a module's names stand for -/
def GAll (T : TB) (lv : Nat) (P : Program) (w : World) (K : PySem.W.Frag) (mg : Str → Option Value) (base : Heap) (G : List (Str × GD)) : Prop := ∀ x g, G.lookup x = some g → GdOk T lv P w K mg base x g
section
variable {T : TB} {lv lv' : Nat} {P : Program} {w : World} {K : PySem.W.Frag} {mg : Str → Option Value} {base : Heap} {G : List (Str × GD)} {x : Str} {g : GD}
theorem GAll.nil : GAll T lv P w K mg base [] := fun _ _ h => nomatch h
theorem GAll.add (h : GAll T lv P w K mg base G) (l : lv ≤ lv') (k : GdOk T lv' P w K mg base x g) : GAll T lv' P w K mg base ((x, g) :: G) := fun y d e => by
  rw [List.lookup_cons] at e
  cases q : (y == x) with
  | true =>
    rw [q] at e
    cases e
    rw [beq_iff_eq.mp q]
    exact k
  | false =>
    rw [q] at e
    exact (h y d e).mono l
theorem GAll.at {n : Nat} (h : GAll T n P w K mg base G) (l : n ≤ lv) : GAll T lv P w K mg base G := fun y d e => (h y d e).mono l
end
/-! ### facts of the head -/
/-- what stands in the top besides defs, as Fa tells it -/
inductive Sf where
  | blt (x : Str) | int (x : Str) (i : Int) | exc (x : Str) | val (x : Str)
def Sf.name : Sf → Str
  | .blt x => x
  | .int x _ => x
  | .exc x => x
  | .val x => x
def Sf.gd : Sf → GD
  | .blt _ => .blt
  | .int _ i => .int i
  | .exc _ => .exc
  | .val _ => .val
def Sf.fa : Sf → List He.Fa
  | .blt x => [.free x]
  | .int x i => [.int x i]
  | .exc x => [.glo x, .exc x]
  | .val x => [.glo x]
theorem sf_ok {fa : List He.Fa} {fn : List He.DefD} {K : PySem.W.Frag} {h : Heap} {mg : Str → Option Value} (X : K.In h) (Gn : h.Ns mainGlobals mg) (c : He.SaysD fa fn K) {T : TB} {lv : Nat} {P : Program} {w : World} {base : Heap} : ∀ (l : List Sf), (∀ s ∈ l, ∀ f ∈ s.fa, f ∈ fa) → GAll T lv P w K mg base (l.map fun s => (s.name, s.gd))
  | [], _ => GAll.nil
  | s :: l, hs => by
    refine (sf_ok X Gn c l fun s' hs' => hs s' (List.mem_cons_of_mem _ hs')).add (Nat.le_refl _) ?_
    have hf : ∀ f ∈ s.fa, f.ok K = true := fun f hf => c.facts (hs s List.mem_cons_self f hf)
    cases s with
    | blt x => exact He.free_ok X Gn (hf _ (List.mem_singleton.mpr rfl))
    | int x i => exact He.int_ok X Gn (hf _ (List.mem_singleton.mpr rfl))
    | val x => exact ⟨_, He.glo_ok X Gn (hf _ (List.mem_singleton.mpr rfl))⟩
    | exc x =>
      obtain ⟨q1, q2, q3, q4⟩ := He.exc_ok (hf (.exc x) (by simp [Sf.fa]))
      exact ⟨_, He.glo_ok X Gn (hf (.glo x) (by simp [Sf.fa])), q1, q2, q3, q4⟩
theorem funD_code {K : PySem.W.Frag} {x qual : Str} {params : Arguments} {body : List Stmt} {scope : Scope} {p : Str × Option Str} {fd : FuncData} (F : FunD K x qual params body scope [] [] (He.fAd K p) fd) : fd.code = .ref (He.codeOf K p) := by
  obtain ⟨oc, od, dV, kV, doc, pm, an, cdv, ct, osl, e0, lk, hcd, _, _⟩ := F.ex
  obtain ⟨c, ec⟩ := He.codeIn_ref hcd
  have e1 : fd.code = .ref c := by rw [e0]; exact ec
  rw [He.codeOf_eq lk e1, e1]
/-- the tables of the makers of lambdas -/
def tabsT (tf : List He.Defn) (K : PySem.W.Frag) : TB := ⟨tf.map fun p => ((He.cT K p).2, p.1 ++ ".<locals>." ++ "<lambda>")⟩
def apartT (tf : List He.Defn) (K : PySem.W.Frag) : Bool := decide (tf.map fun p => (He.cT K p).2).Nodup
theorem apartT_ok {tf : List He.Defn} {K : PySem.W.Frag} (h : apartT tf K = true) {p : He.Defn} (hp : p ∈ tf) : ((He.cT K p).2, p.1 ++ ".<locals>." ++ "<lambda>") ∈ (tabsT tf K).tabs ∧ ∀ q ∈ (tabsT tf K).tabs, q.1 = (He.cT K p).2 → q.2 = p.1 ++ ".<locals>." ++ "<lambda>" := by
  have nd := of_decide_eq_true h
  refine ⟨List.mem_map.mpr ⟨p, hp, rfl⟩, fun q hq e => ?_⟩
  obtain ⟨p', hp', rfl⟩ := List.mem_map.mp hq
  have inj : p' = p := by
    clear hq h
    induction tf with
    | nil => cases hp
    | cons a l ih =>
      have nd' := List.nodup_cons.mp (show ((He.cT K a).2 :: l.map fun p => (He.cT K p).2).Nodup from nd)
      rcases List.mem_cons.mp hp with z | z <;> rcases List.mem_cons.mp hp' with z' | z'
      · rw [z, z']
      · exact absurd (List.mem_map.mpr ⟨p', z', by rw [← z]; exact e⟩) nd'.1
      · exact absurd (List.mem_map.mpr ⟨p, z, by rw [← z']; exact e.symm⟩) nd'.1
      · first | exact ih z nd'.2 z' | exact ih z z' nd'.2
  rw [inj]
/-- no list stands in the written part -/
def noLists (K : PySem.W.Frag) : Bool := K.all fun q => match q.2.cls with
  | .type c => !(c == "list")
  | _ => true
theorem noLists_ok {K : PySem.W.Frag} (h : noLists K = true) {a : Addr} {o : Obj} (e : K.lookup a = some o) : o.cls ≠ .type "list" := fun z => by
  have q := List.all_eq_true.mp h (a, o) (He.lookup_mem e)
  have q : (match o.cls with | .type c => !(c == "list") | _ => true) = true := q
  rw [z] at q
  cases q
/-! ### the end of a law -/
theorem script_post {T : TB} {K : PySem.W.Frag} {mg : Str → Option Value} {H : Hp} {a : Addr} {ns : List Int} {φ : List D → Mem → Res D} (hT : ∀ p ∈ T.tabs, H p.1 = some (.tbl #[])) (nl : noLists K = true) (hS : SqL K H a (ns.map V.int))
    (hφ : ∀ m, (m = MO.lst (ns.map .int) ∨ m = MO.fz (ns.map .int)) → ∃ M', φ [.ref 0] [m] = .ok (.bl true) M') : spOf ⟨K, mg, T⟩ 1 φ [.ref a] H (fun v _ => v = .bl true) fun _ _ _ => False := by
  have rnums : ∀ (w : Wd) (l : List Int), RelL ⟨K, mg, T⟩ w (l.map D.int) (l.map V.int) := fun w l => by
    induction l with
    | nil => exact .nil
    | cons i l ih => exact .cons (by unfold RelD; rfl) ih
  have go : ∀ (m : MO) (u : HO), H a = some u → (m = MO.lst (ns.map .int) ∨ m = MO.fz (ns.map .int)) → (∀ w, RelM ⟨K, mg, T⟩ w m u) → (∀ ps, u ≠ .tbl ps) → (∀ c q, u ≠ LamX.CodeO c q) → spOf ⟨K, mg, T⟩ 1 φ [.ref a] H (fun v _ => v = .bl true) fun _ _ _ => False := fun m u hu hm rm nt nc => by
    obtain ⟨M', e⟩ := hφ m hm
    refine ⟨⟨fun _ => a, [m], H, fun _ _ => False⟩, [.ref 0], rfl, ⟨fun n m' e' => ?_, fun i j hi hj _ => ?_, fun _ _ z => z.elim, fun _ _ _ _ z => z.elim, fun p hp => ⟨#[], hT p hp, True.intro, fun pos cv z => ?_⟩⟩, .cons (by unfold RelD; exact ⟨Nat.one_pos, rfl⟩) .nil, rfl, ?_⟩
    · have e' : [m][n]? = some m' := e'
      cases n with
      | zero => cases e'; exact ⟨u, hu, rm _, nt⟩
      | succ n => simp at e'
    · have hi : i < 1 := hi
      have hj : j < 1 := hj
      omega
    · have z : codeAmong pos [] = some cv := z
      simp [codeAmong] at z
    · show Post _ _ _ _ _ _ (φ [.ref 0] [m])
      rw [e]
      intro w' b _ _ _ r
      unfold RelD at r
      exact r
  rcases hS with (h | ⟨ob, h⟩) | ⟨o, its, n, lk, hc, _⟩
  · exact go _ _ h (.inl rfl) (fun w => ⟨_, rfl, rnums w ns⟩) (fun _ z => by cases z) fun _ _ z => by unfold LamX.CodeO at z; cases z
  · exact go _ _ h (.inr rfl) (fun w => ⟨_, _, rfl, rnums w ns⟩) (fun _ z => by cases z) fun _ _ z => by unfold LamX.CodeO at z; cases z
  · exact absurd hc (noLists_ok nl lk)
theorem head_law {l : PySem.W.OpenLaw} {q : Program} {loose : List Str} {XP : (Str → Option Value) → Heap → Prop} {d : DefRec} {tf : List He.Defn} {fa : List He.Fa} {fn : List He.DefD} {ex : PySem.W.Frag → Bool} {φ : List D → Mem → Res D} {x : Str} {k nH : Nat}
    (hd : d.name = "law") (hdf : d.params.defaults = []) (hm : l.most = some 63) (hr : Room k callerA) (hex : ∀ K, ex K = true → noLists K = true)
    (hall : ∀ (w : World) (K : PySem.W.Frag) (h : Heap) (mg : Str → Option Value) (f : Addr), K.In h → h.Ns mainGlobals mg → mg "law" = some (.ref f) → He.SaysD fa fn K → ex K = true → ∃ fd : FuncData, (∀ (s : Shared) (u : Value), BindsTo s fd ⟨[u], []⟩ [(x, u)]) ∧
      ∀ base : Heap, (∀ p ∈ tf, LamX.TabB base mg (He.cT K p).1 (He.cT K p).2) → FnOk l.prog w K mg base (L2N.CX l.prog w) k f fd [x] (spOf ⟨K, mg, tabsT tf K⟩ 1 φ))
    (hφ : ∀ ns : List Int, ns.length ≤ 63 → (∀ z ∈ ns, Builtin.Int.intBits z ≤ 1048576) → ∀ m, (m = MO.lst (ns.map .int) ∨ m = MO.fz (ns.map .int)) → ∃ M', φ [.ref 0] [m] = .ok (.bl true) M') :
    PySem.W.WalkO q loose XP (He.hookX nH fa fn [] tf ex).says l.row.toRowW d [] (fun f vs => PySem.call f vs) := by
  refine LamX.walk_ofTsE (k := k) (CX := fun w => L2N.CX l.prog w) (x := x) hm (by decide) hdf hr (fun w mg fa' h Y Gn hmg => ?_) fun w H s e s' z => ?_
  · obtain ⟨K, KX, c⟩ := Y
    rw [hd] at hmg
    have nl := hex K c.more
    obtain ⟨fd, hb, hF⟩ := hall w K h mg fa' KX Gn hmg c.t.d c.more
    have mem : ∀ p ∈ tf.map (He.cT K), ∃ p0 ∈ tf, He.cT K p0 = p := fun p hp => List.mem_map.mp hp
    refine ⟨K, KX, fd, tf.map (He.cT K), spOf ⟨K, mg, tabsT tf K⟩ 1 φ, fun p hp => ?_, fun p hp => ?_, fun p hp => ?_, hb, fun H a ns hl hbits hT hS => ?_, fun base _ _ TBs => hF base fun p hp => TBs _ (List.mem_map.mpr ⟨p, hp, rfl⟩)⟩
    · obtain ⟨p0, h0, rfl⟩ := mem p hp
      exact c.empty p0 h0
    · obtain ⟨p0, h0, rfl⟩ := mem p hp
      exact c.out p0 h0
    · obtain ⟨p0, h0, rfl⟩ := mem p hp
      exact PySem.W.codeHd_of_K KX (c.hd p0 h0)
    · refine script_post (fun p hp => ?_) nl hS (hφ ns hl hbits)
      obtain ⟨p0, h0, rfl⟩ := List.mem_map.mp hp
      exact hT _ (List.mem_map.mpr ⟨p0, h0, rfl⟩)
  · obtain ⟨_, _, _, _, _, _, _, _, _, _, _, _, z⟩ := z
    exact z.elim
end Pd
namespace Pd
open PySem PySem.Spec PyProof.Rows L2
/-! ### the package's classes of errors -/
def isxT (good all : List Str) (x y : Str) : Option Bool := if good.contains x && all.contains y then some (x == y) else none
def isxB (K : PySem.W.Frag) (good all : List Str) : Bool := good.all fun x => all.all fun y => decide (PySem.W.kitOne K (.ref (He.ga K x)) (.ref (He.ga K y)) = some (x == y))
def hasGlo (l : List Sf) (y : Str) : Bool := l.any fun s => match s with
  | .val x => x == y
  | .exc x => x == y
  | _ => false
theorem hasGlo_ok {l : List Sf} {r : List He.Fa} {ys : List Str} (h : ys.all (hasGlo l) = true) : ∀ y ∈ ys, He.Fa.glo y ∈ l.flatMap Sf.fa ++ r := fun y hy => by
  obtain ⟨s, hs, e⟩ := List.any_eq_true.mp (List.all_eq_true.mp h y hy)
  refine List.mem_append_left _ (List.mem_flatMap.mpr ⟨s, hs, ?_⟩)
  cases s with
  | blt x => cases e
  | int x i => cases e
  | val x =>
    have e : (x == y) = true := e
    rw [beq_iff_eq.mp e]
    exact List.mem_singleton.mpr rfl
  | exc x =>
    have e : (x == y) = true := e
    rw [beq_iff_eq.mp e]
    exact List.mem_cons_self
def excB (K : PySem.W.Frag) (D : Addr) : Bool :=
  decide (PySem.W.findIn K (.ref D) "__getattribute__" = some (some (.builtin "BaseException.__getattribute__"))) && (decide (PySem.W.findIn K (.ref D) "__getattr__" = some none) && (decide (PySem.W.subIn K (.ref D) (.type "BaseException") = some true) && (PySem.W.hasDictIn K D &&
  (decide (PySem.W.findIn K (.ref D) "__class__" = some (some (.builtin "object.__class__"))) && (decide (PySem.W.specialIn K (.builtin "object.__class__") "__get__" = some (some (.builtin "getset_descriptor.__get__"))) && (decide (PySem.W.takesIn K (.builtin "object.__class__") = some true) && decide (PySem.W.mroIn K D (.type "object") = some true)))))))
theorem excB_ok {K : PySem.W.Frag} {D : Addr} (h : excB K D = true) : ExcC K D := by
  unfold excB at h
  simp only [Bool.and_eq_true, decide_eq_true_eq] at h
  obtain ⟨h1, h2, h3, h4, h5, h6, h7, h8⟩ := h
  exact ⟨h1, h2, h3, h4, h5, h6, h7, h8⟩
def exmB (K : PySem.W.Frag) (good : List Str) : Bool := good.all fun x => decide (PySem.W.exmOne K (.ref (He.ga K x)) (.ref (He.ga K "HandError")) = some true) && excB K (He.ga K x)
def kindOf (x : Str) : Str := if x = "InvalidCircle" then "circle" else if x = "InvalidPlan" then "plan" else if x = "InvalidFilling" then "filling" else if x = "InvalidIndex" then "index" else if x = "InvalidNumber" then "number" else
  if x = "InvalidSeen" then "seen" else if x = "NotReady" then "ready" else if x = "NothingToUndo" then "undo" else if x = "TooMany" then "many" else "text"
def kind (good : List Str) (x : Str) : Option Str := if good.contains x then some (kindOf x) else none
section
variable {fa : List He.Fa} {fn : List He.DefD} {K : PySem.W.Frag} {h : Heap} {mg : Str → Option Value} {good all : List Str}
theorem isxT_ok (X : K.In h) (Gn : h.Ns mainGlobals mg) (c : He.SaysD fa fn K) (hi : isxB K good all = true) (ha : ∀ y ∈ all, He.Fa.glo y ∈ fa) (hg : ∀ y ∈ good, He.Fa.glo y ∈ fa := by assumption) : ∀ x y b, isxT good all x y = some b → ∃ D, mg y = some (.ref D) ∧ ∀ C, mg x = some (.ref C) → PySem.W.kitOne K (.ref C) (.ref D) = some b := fun x y b e => by
  unfold isxT at e
  split at e
  · rename_i hc
    rw [Bool.and_eq_true, List.contains_iff_mem, List.contains_iff_mem] at hc
    cases e
    refine ⟨_, He.glo_ok X Gn (c.facts (ha y hc.2)), fun C hC => ?_⟩
    have := He.glo_ok X Gn (c.facts (hg x hc.1))
    rw [hC] at this
    cases this
    exact of_decide_eq_true (List.all_eq_true.mp (List.all_eq_true.mp hi x hc.1) y hc.2)
  · cases e
theorem exm_ok (X : K.In h) (Gn : h.Ns mainGlobals mg) (c : He.SaysD fa fn K) (hi : exmB K good = true) (hg : ∀ y ∈ good, He.Fa.glo y ∈ fa) : ∀ cn, kind good cn ≠ none → ∀ C, mg cn = some (.ref C) → PySem.W.exmOne K (.ref C) (.ref (He.ga K "HandError")) = some true ∧ ExcC K C := fun cn hk C hC => by
  unfold kind at hk
  split at hk
  · rename_i hc
    rw [List.contains_iff_mem] at hc
    have := He.glo_ok X Gn (c.facts (hg cn hc))
    rw [hC] at this
    cases this
    obtain ⟨q1, q2⟩ := Bool.and_eq_true_iff.mp (List.all_eq_true.mp hi cn hc)
    exact ⟨of_decide_eq_true q1, excB_ok q2⟩
  · exact absurd rfl hk
end
end Pd
namespace Pd
open PySem PySem.Spec PyProof.Rows L2
/-! ### readings computed -/
/-- an equation that the kernel need not compute anew -/
theorem nr {α : Sort _} {a b : α} (h : a = b) : a = b := h
section
variable {α β : Type}
@[simp] theorem bind_ok (a : α) (M : Mem) (k : α → Mem → Res β) : (Res.ok a M).bind k = k a M := nr rfl
@[simp] theorem bind_exc (x : Exn) (M : Mem) (k : α → Mem → Res β) : (Res.exc x M).bind k = .exc x M := nr rfl
@[simp] theorem bind_bad (k : α → Mem → Res β) : (Res.bad : Res α).bind k = .bad := nr rfl
@[simp] theorem onV_ok (a : α) (M : Mem) (δ : DEnv) (k : α → Mem → ResS) : onV (Res.ok a M) δ k = k a M := nr rfl
@[simp] theorem onV_exc (x : Exn) (M : Mem) (δ : DEnv) (k : α → Mem → ResS) : onV (Res.exc x M : Res α) δ k = .exc x δ M := nr rfl
@[simp] theorem onG_some (p : DEnv × Mem) (k : DEnv → Mem → ResS) : onG (some p) k = k p.1 p.2 := nr rfl
@[simp] theorem ofV_some (p : α × Mem) : ofV (some p) = .ok p.1 p.2 := nr rfl
@[simp] theorem toR_rt (d : D) (M : Mem) : toR (.rt d M) = .ok d M := nr rfl
@[simp] theorem toR_nx (δ : DEnv) (M : Mem) : toR (.nx δ M) = .ok .non M := nr rfl
@[simp] theorem toR_exc (x : Exn) (δ : DEnv) (M : Mem) : toR (.exc x δ M) = .exc x M := nr rfl
end
theorem oldOk_self (M G : Mem) : OldOk M (M ++ G) := fun i m hi e => .inl (by rwa [List.getElem?_append_left hi] at e)
/-- a value comes, the rest is forgotten -/
theorem gc_val {M G : Mem} {d : D} (h : belowD M.length d = true) : gcR M (.ok d (M ++ G)) = .ok d M := by
  show gcV M d (M ++ G) = _
  unfold gcV
  rw [if_pos (oldOk_self M G), if_pos h, List.take_left]
theorem gc_val0 {M : Mem} {d : D} (h : belowD M.length d = true) : gcR M (.ok d M) = .ok d M := by
  have := gc_val (M := M) (G := []) h
  rwa [List.append_nil] at this
theorem gc_exc {M G : Mem} {x : Str} : gcR M (.exc ⟨x, []⟩ (M ++ G)) = .exc ⟨x, []⟩ M := by
  show gcE M _ (M ++ G) = _
  unfold gcE
  rw [if_pos ⟨oldOk_self M G, rfl⟩, List.take_left]
theorem gc_exc0 {M : Mem} {x : Str} : gcR M (.exc ⟨x, []⟩ M) = .exc ⟨x, []⟩ M := by
  have := gc_exc (M := M) (G := []) (x := x)
  rwa [List.append_nil] at this
/-- a new list comes -/
theorem gc_lst {M G : Mem} {k : Nat} {l : List D} (hk : M.length ≤ k) (hl : (M ++ G)[k]? = some (.lst l)) (hb : belowL M.length l = true) : gcR M (.ok (.ref k) (M ++ G)) = .ok (.ref M.length) (M ++ [.lst l]) := by
  show gcV M (.ref k) (M ++ G) = _
  unfold gcV
  have h0 : ¬ belowD M.length (.ref k) = true := by unfold belowD; simp; exact hk
  rw [if_pos (oldOk_self M G), if_neg h0]
  dsimp only
  rw [hl]
  dsimp only
  rw [if_pos ⟨hk, hb⟩, List.take_left]
/-- one old thing is changed -/
theorem gc_set {M G : Mem} {j : Nat} {m : MO} {d : D} (hb : belowM M.length m = true) (hd : belowD M.length d = true) : gcR M (.ok d (M.set j m ++ G)) = .ok d (M.set j m) := by
  show gcV M d (M.set j m ++ G) = _
  unfold gcV
  have ho : OldOk M (M.set j m ++ G) := fun i m' hi e => by
    rw [List.getElem?_append_left (by rw [List.length_set]; exact hi)] at e
    by_cases h : j = i
    · subst h
      rw [List.getElem?_set_self hi] at e
      cases e
      exact .inr hb
    · rw [List.getElem?_set_ne h] at e
      exact .inl e
  rw [if_pos ho, if_pos hd]
  congr 1
  rw [← List.length_set (i := j) (a := m), List.take_left]
theorem gc_set0 {M : Mem} {j : Nat} {m : MO} {d : D} (hb : belowM M.length m = true) (hd : belowD M.length d = true) : gcR M (.ok d (M.set j m)) = .ok d (M.set j m) := by
  have := gc_set (M := M) (G := []) (j := j) hb hd
  rwa [List.append_nil] at this
@[simp] theorem gc_bl {M G : Mem} {b : Bool} : gcR M (.ok (.bl b) (M ++ G)) = .ok (.bl b) M := gc_val rfl
@[simp] theorem gc_int {M G : Mem} {b : Int} : gcR M (.ok (.int b) (M ++ G)) = .ok (.int b) M := gc_val rfl
@[simp] theorem gc_str {M G : Mem} {b : Str} : gcR M (.ok (.str b) (M ++ G)) = .ok (.str b) M := gc_val rfl
@[simp] theorem gc_non {M G : Mem} : gcR M (.ok .non (M ++ G)) = .ok .non M := gc_val rfl
@[simp] theorem gc_bl0 {M : Mem} {b : Bool} : gcR M (.ok (.bl b) M) = .ok (.bl b) M := gc_val0 rfl
@[simp] theorem gc_int0 {M : Mem} {b : Int} : gcR M (.ok (.int b) M) = .ok (.int b) M := gc_val0 rfl
@[simp] theorem gc_str0 {M : Mem} {b : Str} : gcR M (.ok (.str b) M) = .ok (.str b) M := gc_val0 rfl
@[simp] theorem gc_non0 {M : Mem} : gcR M (.ok .non M) = .ok .non M := gc_val0 rfl
@[simp] theorem gc_ex {M G : Mem} {x : Str} : gcR M (.exc ⟨x, []⟩ (M ++ G)) = .exc ⟨x, []⟩ M := gc_exc
@[simp] theorem gc_ex0 {M : Mem} {x : Str} : gcR M (.exc ⟨x, []⟩ M) = .exc ⟨x, []⟩ M := gc_exc0
theorem gc_tup {M G : Mem} {l : List D} (h : belowL M.length l = true) : gcR M (.ok (.tup l) (M ++ G)) = .ok (.tup l) M := gc_val h
theorem gc_tup0 {M : Mem} {l : List D} (h : belowL M.length l = true) : gcR M (.ok (.tup l) M) = .ok (.tup l) M := gc_val0 h
@[simp] theorem atI_0 (a : D) (l : List D) : atI (a :: l) 0 = some a := by
  unfold atI ixN
  rw [if_pos (by decide), if_pos (by rw [List.length_cons]; omega)]
  rfl
@[simp] theorem atI_1 (a b : D) (l : List D) : atI (a :: b :: l) 1 = some b := by
  unfold atI ixN
  rw [if_pos (by decide), if_pos (by rw [List.length_cons, List.length_cons]; omega)]
  rfl
@[simp] theorem atI_2 (a b c : D) (l : List D) : atI (a :: b :: c :: l) 2 = some c := by
  unfold atI ixN
  rw [if_pos (by decide), if_pos (by rw [List.length_cons, List.length_cons, List.length_cons]; omega)]
  rfl
theorem atI_nat {l : List D} {n : Nat} {d : D} (h : l[n]? = some d) : atI l (n : Int) = some d := by
  have hn := (List.getElem?_eq_some_iff.mp h).1
  unfold atI ixN
  rw [if_pos (by omega), if_pos (by omega)]
  simpa using h
/-! ### the store beside its growth -/
@[simp] theorem seqOf_mid (M : Mem) (l : List D) (G : Mem) : seqOf (M ++ .lst l :: G) M.length = some l := by
  unfold seqOf
  rw [List.getElem?_append_right (Nat.le_refl _), Nat.sub_self]
  rfl
@[simp] theorem lstOf_mid (M : Mem) (l : List D) (G : Mem) : lstOf (M ++ .lst l :: G) M.length = some l := by
  unfold lstOf
  rw [List.getElem?_append_right (Nat.le_refl _), Nat.sub_self]
  rfl
theorem seqOf_app {M : Mem} {n : Nat} {l : List D} (G : Mem) (h : seqOf M n = some l) : seqOf (M ++ G) n = some l := by
  unfold seqOf at h ⊢
  cases e : M[n]? with
  | none => rw [e] at h; cases h
  | some m => rw [List.getElem?_append_left (List.getElem?_eq_some_iff.mp e).1, e]; rw [e] at h; exact h
theorem lstOf_app {M : Mem} {n : Nat} {l : List D} (G : Mem) (h : lstOf M n = some l) : lstOf (M ++ G) n = some l := by
  unfold lstOf at h ⊢
  cases e : M[n]? with
  | none => rw [e] at h; cases h
  | some m => rw [List.getElem?_append_left (List.getElem?_eq_some_iff.mp e).1, e]; rw [e] at h; exact h
theorem seqOf_lst {M : Mem} {n : Nat} {l : List D} (h : lstOf M n = some l) : seqOf M n = some l := by
  unfold lstOf at h
  unfold seqOf
  split at h
  · rename_i e; rw [e]; exact h
  · cases h
/-! ### comprehensions over what does not change -/
theorem compL_fm {n : Nat} {g : GF D} {tt : EF Bool} {te : EF D} {δ : DEnv} {M0 : Mem} (hn : n = M0.length) (p : D → Bool) (f : D → D) : ∀ (l acc : List D), acc.length + l.length ≤ sizeLine →
    (∀ d ∈ l, ∀ acc, ∃ δ', g d δ (M0 ++ [.lst acc]) = some (δ', M0 ++ [.lst acc]) ∧ tt δ' (M0 ++ [.lst acc]) = .ok (p d) (M0 ++ [.lst acc]) ∧ (p d = true → te δ' (M0 ++ [.lst acc]) = .ok (f d) (M0 ++ [.lst acc]))) →
    compL n g tt te δ l (M0 ++ [.lst acc]) = some (M0 ++ [.lst (acc ++ (l.filter p).map f)])
  | [], acc, _, _ => by simp [compL]
  | d :: l, acc, hl, h => by
    rw [List.length_cons] at hl
    obtain ⟨δ', h1, h2, h3⟩ := h d List.mem_cons_self acc
    have step : compStep n g tt te δ d (M0 ++ [.lst acc]) = some (M0 ++ [.lst (acc ++ (if p d = true then [f d] else []))]) := by
      unfold compStep
      rw [h1]
      dsimp only
      rw [h2]
      dsimp only
      by_cases hp : p d = true
      · rw [if_pos hp, if_pos hp, h3 hp]
        dsimp only
        rw [hn, lstOf_mid]
        dsimp only
        rw [if_pos (by omega)]
        simp
      · rw [if_neg hp, if_neg hp, List.append_nil]
    unfold compL
    rw [step]
    show compL n g tt te δ l (M0 ++ [.lst (acc ++ (if p d = true then [f d] else []))]) = _
    rw [compL_fm hn p f l _ (by rw [List.length_append]; split <;> simp <;> omega) fun d' hd' => h d' (List.mem_cons_of_mem _ hd')]
    by_cases hp : p d = true
    · simp [hp]
    · simp [hp]
theorem dLc_fm {own : List Nat} {src : EF Src} {g : GF D} {tt : EF Bool} {te : EF D} {δ : DEnv} {M M1 : Mem} {l : List D} (p : D → Bool) (f : D → D) (hs : src δ M = .ok (.items l) M1) (hl : l.length ≤ sizeLine)
    (h : ∀ d ∈ l, ∀ acc, ∃ δ', g d (wipeD δ own) (M1 ++ [.lst acc]) = some (δ', M1 ++ [.lst acc]) ∧ tt δ' (M1 ++ [.lst acc]) = .ok (p d) (M1 ++ [.lst acc]) ∧ (p d = true → te δ' (M1 ++ [.lst acc]) = .ok (f d) (M1 ++ [.lst acc]))) :
    dLc own src g tt te δ M = .ok (.ref M1.length) (M1 ++ [.lst ((l.filter p).map f)]) := by
  unfold dLc
  rw [hs]
  show (match compL M1.length g tt te (wipeD δ own) l (M1 ++ [.lst []]) with
    | some M' => Res.ok (D.ref M1.length) M'
    | none => .bad) = _
  rw [compL_fm rfl p f l [] (by simpa using hl) h]
  rfl
theorem dLc_map {own : List Nat} {src : EF Src} {g : GF D} {te : EF D} {δ : DEnv} {M M1 : Mem} {l : List D} (f : D → D) (hs : src δ M = .ok (.items l) M1) (hl : l.length ≤ sizeLine)
    (h : ∀ d ∈ l, ∀ acc, ∃ δ', g d (wipeD δ own) (M1 ++ [.lst acc]) = some (δ', M1 ++ [.lst acc]) ∧ te δ' (M1 ++ [.lst acc]) = .ok (f d) (M1 ++ [.lst acc])) :
    dLc own src g tTrue te δ M = .ok (.ref M1.length) (M1 ++ [.lst (l.map f)]) := by
  have := dLc_fm (own := own) (tt := tTrue) (fun _ => true) f hs hl fun d hd acc => let ⟨δ', a, b⟩ := h d hd acc; ⟨δ', a, rfl, fun _ => b⟩
  rw [this, show l.filter (fun _ => true) = l from List.filter_eq_self.mpr fun _ _ => rfl]
@[simp] theorem dSeqSrc_tup {f : EF D} {δ : DEnv} {M M1 : Mem} {l : List D} (h : f δ M = .ok (.tup l) M1) : dSeqSrc f δ M = .ok (.items l) M1 := by
  unfold dSeqSrc
  rw [h]
  rfl
end Pd
namespace Pd
open PySem PySem.Spec PyProof.Rows
/-! ### equality of plain data -/
mutual
def toPy : D → PyData
  | .non => .none
  | .bl b => .bool b
  | .int i => .int i
  | .str s => .str s
  | .tup l => .tuple (toPyL l)
  | _ => .none
def toPyL : List D → List PyData
  | [] => []
  | d :: l => toPy d :: toPyL l
end
mutual
/-- no Bool, no thing of the store, nested at most n deep -/
def pln (n : Nat) : D → Bool
  | .non => true
  | .int _ => true
  | .str s => PyData.strOk s
  | .tup l => decide (0 < n) && plnL (n - 1) l
  | _ => false
def plnL (n : Nat) : List D → Bool
  | [] => true
  | d :: l => pln n d && plnL n l
end
mutual
theorem pyD_pln (M : Mem) : ∀ (d : D) (n k : Nat), pln n d = true → n < k → pyD M k d = some (toPy d)
  | .non, n, k + 1, _, _ => rfl
  | .int _, n, k + 1, _, _ => rfl
  | .str _, n, k + 1, _, _ => rfl
  | .tup l, n, k + 1, h, hk => by
    unfold pln at h
    obtain ⟨h1, h2⟩ := Bool.and_eq_true_iff.mp h
    have h1 := of_decide_eq_true h1
    unfold pyD
    rw [pyL_pln M l (n - 1) k h2 (by omega)]
    rfl
  | .bl _, _, _, h, _ => by unfold pln at h; cases h
  | .ref _, _, _, h, _ => by unfold pln at h; cases h
  | .gl _, _, _, h, _ => by unfold pln at h; cases h
  | .ty _, _, _, h, _ => by unfold pln at h; cases h
  | .exn _ _, _, _, h, _ => by unfold pln at h; cases h
  | _, _, 0, _, hk => by omega
theorem pyL_pln (M : Mem) : ∀ (l : List D) (n k : Nat), plnL n l = true → n < k → pyL (pyD M k) l = some (toPyL l)
  | [], _, _, _, _ => rfl
  | d :: l, n, k, h, hk => by
    unfold plnL at h
    obtain ⟨h1, h2⟩ := Bool.and_eq_true_iff.mp h
    unfold pyL
    rw [pyD_pln M d n k h1 hk, pyL_pln M l n k h2 hk]
    rfl
end
mutual
theorem lay_pln : ∀ (d : D) (n : Nat), pln n d = true → (toPy d).canLay0 = true ∧ (toPy d).depth ≤ n
  | .non, n, _ => ⟨rfl, by unfold toPy PyData.depth; omega⟩
  | .int _, n, _ => ⟨rfl, by unfold toPy PyData.depth; omega⟩
  | .str s, n, h => ⟨by unfold pln at h; unfold toPy PyData.canLay0; exact h, by unfold toPy PyData.depth; omega⟩
  | .tup l, n, h => by
    unfold pln at h
    obtain ⟨h1, h2⟩ := Bool.and_eq_true_iff.mp h
    have h1 := of_decide_eq_true h1
    obtain ⟨q1, q2⟩ := layL_pln l (n - 1) h2
    exact ⟨by unfold toPy PyData.canLay0; exact q1, by unfold toPy PyData.depth; omega⟩
  | .bl _, _, h => by unfold pln at h; cases h
  | .ref _, _, h => by unfold pln at h; cases h
  | .gl _, _, h => by unfold pln at h; cases h
  | .ty _, _, h => by unfold pln at h; cases h
  | .exn _ _, _, h => by unfold pln at h; cases h
theorem layL_pln : ∀ (l : List D) (n : Nat), plnL n l = true → PyData.canLayAll0 (toPyL l) = true ∧ PyData.depthAll (toPyL l) ≤ n
  | [], n, _ => ⟨rfl, by unfold toPyL PyData.depthAll; omega⟩
  | d :: l, n, h => by
    unfold plnL at h
    obtain ⟨h1, h2⟩ := Bool.and_eq_true_iff.mp h
    obtain ⟨q1, q2⟩ := lay_pln d n h1
    obtain ⟨q3, q4⟩ := layL_pln l n h2
    exact ⟨by unfold toPyL PyData.canLayAll0; rw [q1, q3]; rfl, by unfold toPyL PyData.depthAll; omega⟩
end
mutual
theorem eqv_pln : ∀ (a b : D) (n m : Nat), pln n a = true → pln m b = true → (PyData.eqv (toPy a) (toPy b) = true ↔ a = b)
  | .tup l, .tup k, n, m, h1, h2 => by
    unfold pln at h1 h2
    obtain ⟨_, h3⟩ := Bool.and_eq_true_iff.mp h1
    obtain ⟨_, h4⟩ := Bool.and_eq_true_iff.mp h2
    unfold toPy PyData.eqv
    rw [eqvL_pln l k _ _ h3 h4]
    exact ⟨fun e => by rw [e], fun e => D.tup.inj e⟩
  | .int i, .int j, _, _, _, _ => by
    unfold toPy PyData.eqv
    rw [beq_iff_eq]
    exact ⟨fun e => by rw [e], fun e => D.int.inj e⟩
  | .str i, .str j, _, _, _, _ => by
    unfold toPy PyData.eqv
    rw [beq_iff_eq]
    exact ⟨fun e => by rw [e], fun e => D.str.inj e⟩
  | .non, .non, _, _, _, _ => ⟨fun _ => rfl, fun _ => rfl⟩
  | .non, .int _, _, _, _, _ => ⟨fun h => (by cases h), fun h => (by cases h)⟩
  | .non, .str _, _, _, _, _ => ⟨fun h => (by cases h), fun h => (by cases h)⟩
  | .non, .tup _, _, _, _, _ => ⟨fun h => (by cases h), fun h => (by cases h)⟩
  | .int _, .non, _, _, _, _ => ⟨fun h => (by cases h), fun h => (by cases h)⟩
  | .int _, .str _, _, _, _, _ => ⟨fun h => (by cases h), fun h => (by cases h)⟩
  | .int _, .tup _, _, _, _, _ => ⟨fun h => (by cases h), fun h => (by cases h)⟩
  | .str _, .non, _, _, _, _ => ⟨fun h => (by cases h), fun h => (by cases h)⟩
  | .str _, .int _, _, _, _, _ => ⟨fun h => (by cases h), fun h => (by cases h)⟩
  | .str _, .tup _, _, _, _, _ => ⟨fun h => (by cases h), fun h => (by cases h)⟩
  | .tup _, .non, _, _, _, _ => ⟨fun h => (by cases h), fun h => (by cases h)⟩
  | .tup _, .int _, _, _, _, _ => ⟨fun h => (by cases h), fun h => (by cases h)⟩
  | .tup _, .str _, _, _, _, _ => ⟨fun h => (by cases h), fun h => (by cases h)⟩
  | .bl _, _, _, _, h, _ => by unfold pln at h; cases h
  | .ref _, _, _, _, h, _ => by unfold pln at h; cases h
  | .gl _, _, _, _, h, _ => by unfold pln at h; cases h
  | .ty _, _, _, _, h, _ => by unfold pln at h; cases h
  | .exn _ _, _, _, _, h, _ => by unfold pln at h; cases h
  | _, .bl _, _, _, _, h => by unfold pln at h; cases h
  | _, .ref _, _, _, _, h => by unfold pln at h; cases h
  | _, .gl _, _, _, _, h => by unfold pln at h; cases h
  | _, .ty _, _, _, _, h => by unfold pln at h; cases h
  | _, .exn _ _, _, _, _, h => by unfold pln at h; cases h
theorem eqvL_pln : ∀ (a b : List D) (n m : Nat), plnL n a = true → plnL m b = true → (PyData.eqvAll (toPyL a) (toPyL b) = true ↔ a = b)
  | [], [], _, _, _, _ => ⟨fun _ => rfl, fun _ => rfl⟩
  | [], _ :: _, _, _, _, _ => ⟨fun h => (by cases h), fun h => (by cases h)⟩
  | _ :: _, [], _, _, _, _ => ⟨fun h => (by cases h), fun h => (by cases h)⟩
  | x :: a, y :: b, n, m, h1, h2 => by
    unfold plnL at h1 h2
    obtain ⟨h3, h5⟩ := Bool.and_eq_true_iff.mp h1
    obtain ⟨h4, h6⟩ := Bool.and_eq_true_iff.mp h2
    unfold toPyL PyData.eqvAll
    rw [Bool.and_eq_true, eqv_pln x y _ _ h3 h4, eqvL_pln a b _ _ h5 h6]
    exact ⟨fun ⟨e1, e2⟩ => by rw [e1, e2], fun e => List.cons.inj e⟩
end
noncomputable def deq (a b : D) : Bool := @decide (a = b) (Classical.propDecidable _)
noncomputable def deqL (a b : List D) : Bool := @decide (a = b) (Classical.propDecidable _)
theorem deq_iff {a b : D} : deq a b = true ↔ a = b := @decide_eq_true_iff _ (Classical.propDecidable _)
theorem deqL_iff {a b : List D} : deqL a b = true ↔ a = b := @decide_eq_true_iff _ (Classical.propDecidable _)
@[simp] theorem deq_refl (a : D) : deq a a = true := deq_iff.mpr rfl
@[simp] theorem deqL_refl (a : List D) : deqL a a = true := deqL_iff.mpr rfl
theorem deq_symm (a b : D) : deq a b = deq b a := by
  rw [Bool.eq_iff_iff, deq_iff, deq_iff]
  exact eq_comm
theorem deq_ne {a b : D} (h : a ≠ b) : deq a b = false := by
  cases e : deq a b with
  | false => rfl
  | true => exact absurd (deq_iff.mp e) h
theorem deqL_ne {a b : List D} (h : a ≠ b) : deqL a b = false := by
  cases e : deqL a b with
  | false => rfl
  | true => exact absurd (deqL_iff.mp e) h
theorem dEqB_pln {M : Mem} {a b : D} {n m : Nat} (ha : pln n a = true) (hb : pln m b = true) (hn : n < 20) (hm : m < 20) : dEqB M a b = some (deq a b) := by
  unfold dEqB
  obtain ⟨q1, q2⟩ := lay_pln a n ha
  obtain ⟨q3, q4⟩ := lay_pln b m hb
  have s1 : SeqAt.shaped (toPy a) = true := by unfold SeqAt.shaped; rw [q1, decide_eq_true (by omega : (toPy a).depth ≤ 64)]; rfl
  have s2 : SeqAt.shaped (toPy b) = true := by unfold SeqAt.shaped; rw [q3, decide_eq_true (by omega : (toPy b).depth ≤ 64)]; rfl
  rw [pyD_pln M a n FU ha hn, pyD_pln M b m FU hb hm]
  dsimp only
  rw [s1, s2]
  show some _ = _
  congr 1
  rw [Bool.eq_iff_iff, eqv_pln a b n m ha hb, deq_iff]
theorem dEqB_lst {M : Mem} {i j : Nat} {a b : List D} {n m : Nat} (hi : seqOf M i = some a) (hj : seqOf M j = some b) (ha : plnL n a = true) (hb : plnL m b = true) (hn : n < 19) (hm : m < 19) : dEqB M (.ref i) (.ref j) = some (deqL a b) := by
  unfold dEqB
  obtain ⟨q1, q2⟩ := layL_pln a n ha
  obtain ⟨q3, q4⟩ := layL_pln b m hb
  have e1 : pyD M FU (.ref i) = some (.list (toPyL a)) := by
    show pyD M (19 + 1) (.ref i) = _
    unfold pyD
    rw [hi]
    dsimp only
    rw [pyL_pln M a n 19 ha hn]
    rfl
  have e2 : pyD M FU (.ref j) = some (.list (toPyL b)) := by
    show pyD M (19 + 1) (.ref j) = _
    unfold pyD
    rw [hj]
    dsimp only
    rw [pyL_pln M b m 19 hb hm]
    rfl
  have s1 : SeqAt.shaped (.list (toPyL a)) = true := by
    unfold SeqAt.shaped PyData.canLay0 PyData.depth
    rw [q1, decide_eq_true (by omega)]
    rfl
  have s2 : SeqAt.shaped (.list (toPyL b)) = true := by
    unfold SeqAt.shaped PyData.canLay0 PyData.depth
    rw [q3, decide_eq_true (by omega)]
    rfl
  rw [e1, e2]
  dsimp only
  rw [s1, s2]
  show some _ = _
  congr 1
  rw [Bool.eq_iff_iff, deqL_iff]
  unfold PyData.eqv
  exact eqvL_pln a b n m ha hb
theorem oEq_pln {M : Mem} {a b : D} {n m : Nat} (ha : pln n a = true) (hb : pln m b = true) (hn : n < 20) (hm : m < 20) : oEq a b M = some (.bl (deq a b), M) := by
  unfold oEq
  rw [dEqB_pln ha hb hn hm]
  rfl
theorem oNe_pln {M : Mem} {a b : D} {n m : Nat} (ha : pln n a = true) (hb : pln m b = true) (hn : n < 20) (hm : m < 20) : oNe a b M = some (.bl (!deq a b), M) := by
  unfold oNe
  rw [dEqB_pln ha hb hn hm]
  rfl
@[simp] theorem oEq_int {M : Mem} {i j : Int} : oEq (.int i) (.int j) M = some (.bl (decide (i = j)), M) := by
  rw [oEq_pln (n := 0) (m := 0) rfl rfl (by decide) (by decide)]
  congr 3
  rw [Bool.eq_iff_iff, deq_iff, decide_eq_true_iff]
  exact ⟨fun e => D.int.inj e, fun e => by rw [e]⟩
@[simp] theorem oNe_int {M : Mem} {i j : Int} : oNe (.int i) (.int j) M = some (.bl (!decide (i = j)), M) := by
  rw [oNe_pln (n := 0) (m := 0) rfl rfl (by decide) (by decide)]
  congr 4
  rw [Bool.eq_iff_iff, deq_iff, decide_eq_true_iff]
  exact ⟨fun e => D.int.inj e, fun e => by rw [e]⟩
@[simp] theorem oEq_str {M : Mem} {i j : Str} (h1 : PyData.strOk i = true) (h2 : PyData.strOk j = true) : oEq (.str i) (.str j) M = some (.bl (decide (i = j)), M) := by
  rw [oEq_pln (n := 0) (m := 0) (by unfold pln; exact h1) (by unfold pln; exact h2) (by decide) (by decide)]
  congr 3
  rw [Bool.eq_iff_iff, deq_iff, decide_eq_true_iff]
  exact ⟨fun e => D.str.inj e, fun e => by rw [e]⟩
@[simp] theorem oNe_str {M : Mem} {i j : Str} (h1 : PyData.strOk i = true) (h2 : PyData.strOk j = true) : oNe (.str i) (.str j) M = some (.bl (!decide (i = j)), M) := by
  rw [oNe_pln (n := 0) (m := 0) (by unfold pln; exact h1) (by unfold pln; exact h2) (by decide) (by decide)]
  congr 4
  rw [Bool.eq_iff_iff, deq_iff, decide_eq_true_iff]
  exact ⟨fun e => D.str.inj e, fun e => by rw [e]⟩
theorem oEq_lst {M : Mem} {i j : Nat} {a b : List D} {n m : Nat} (hi : seqOf M i = some a) (hj : seqOf M j = some b) (ha : plnL n a = true) (hb : plnL m b = true) (hn : n < 19) (hm : m < 19) : oEq (.ref i) (.ref j) M = some (.bl (deqL a b), M) := by
  unfold oEq
  rw [dEqB_lst hi hj ha hb hn hm]
  rfl
theorem oNe_lst {M : Mem} {i j : Nat} {a b : List D} {n m : Nat} (hi : seqOf M i = some a) (hj : seqOf M j = some b) (ha : plnL n a = true) (hb : plnL m b = true) (hn : n < 19) (hm : m < 19) : oNe (.ref i) (.ref j) M = some (.bl (!deqL a b), M) := by
  unfold oNe
  rw [dEqB_lst hi hj ha hb hn hm]
  rfl
end Pd
namespace Pd
open PySem
/-! ### the combinators, for simp -/
section
variable (f g h : EF D) (c0 c1 : EF Bool) (ga : EF (List D)) (δ : DEnv) (M : Mem) (d e : D) (l : List D) (op op' : D → D → Mem → OV) (ol : List D → Mem → OV) (i n : Nat) (s s' : DS)
def andK (a : D) (x : Res D) (M : Mem) : Res D := match a with
  | .bl true => x
  | .bl false => .ok (.bl false) M
  | _ => .bad
def orK (a : D) (x : Res D) (M : Mem) : Res D := match a with
  | .bl true => .ok (.bl true) M
  | .bl false => x
  | _ => .bad
def notK (a : D) (M : Mem) : Res D := match a with
  | .bl b => .ok (.bl (!b)) M
  | _ => .bad
def tvK (a : D) (M : Mem) : Res Bool := match a with
  | .bl b => .ok b M
  | _ => .bad
def varK (o : Option (Option D)) (M : Mem) : Res D := match o with
  | some (some d) => .ok d M
  | _ => .bad
def partK (a : D) (M : Mem) : Res (Option Int) := match a with
  | .int i => .ok (some i) M
  | _ => .bad
def seqK (r : ResS) (k : DEnv → Mem → ResS) : ResS := match r with
  | .nx δ M => k δ M
  | r => r
def loopK (r : ResS) (k : DEnv → Mem → ResS) : ResS := match r with
  | .nx δ2 M2 => k δ2 M2
  | .ct δ2 M2 => k δ2 M2
  | .bk δ2 M2 => .nx δ2 M2
  | r => r
@[simp] theorem andK_bl (b : Bool) (x : Res D) : andK (.bl b) x M = if b = true then x else .ok (.bl false) M := by cases b <;> rfl
@[simp] theorem orK_bl (b : Bool) (x : Res D) : orK (.bl b) x M = if b = true then .ok (.bl true) M else x := by cases b <;> rfl
@[simp] theorem notK_bl (b : Bool) : notK (.bl b) M = .ok (.bl (!b)) M := nr rfl
@[simp] theorem tvK_bl (b : Bool) : tvK (.bl b) M = .ok b M := nr rfl
@[simp] theorem varK_some : varK (some (some d)) M = .ok d M := nr rfl
@[simp] theorem partK_int (j : Int) : partK (.int j) M = .ok (some j) M := nr rfl
@[simp] theorem seqK_nx (k : DEnv → Mem → ResS) : seqK (.nx δ M) k = k δ M := nr rfl
@[simp] theorem seqK_rt (k : DEnv → Mem → ResS) : seqK (.rt d M) k = .rt d M := nr rfl
@[simp] theorem seqK_exc (x : Exn) (k : DEnv → Mem → ResS) : seqK (.exc x δ M) k = .exc x δ M := nr rfl
@[simp] theorem seqK_bk (k : DEnv → Mem → ResS) : seqK (.bk δ M) k = .bk δ M := nr rfl
@[simp] theorem seqK_ct (k : DEnv → Mem → ResS) : seqK (.ct δ M) k = .ct δ M := nr rfl
@[simp] theorem loopK_nx (k : DEnv → Mem → ResS) : loopK (.nx δ M) k = k δ M := nr rfl
@[simp] theorem loopK_ct (k : DEnv → Mem → ResS) : loopK (.ct δ M) k = k δ M := nr rfl
@[simp] theorem loopK_bk (k : DEnv → Mem → ResS) : loopK (.bk δ M) k = .nx δ M := nr rfl
@[simp] theorem loopK_rt (k : DEnv → Mem → ResS) : loopK (.rt d M) k = .rt d M := nr rfl
@[simp] theorem loopK_exc (x : Exn) (k : DEnv → Mem → ResS) : loopK (.exc x δ M) k = .exc x δ M := nr rfl
@[simp] theorem e_dVar : dVar i δ M = varK δ[i]? M := nr rfl
@[simp] theorem e_dC : dC d δ M = .ok d M := nr rfl
@[simp] theorem e_dBin : dBin op f g δ M = (f δ M).bind fun a M1 => (g δ M1).bind fun b M2 => ofV (op a b M2) := nr rfl
@[simp] theorem e_dUn (ou : D → Mem → OV) : dUn ou f δ M = (f δ M).bind fun a M1 => ofV (ou a M1) := nr rfl
@[simp] theorem e_dCh3 : dCh3 op op' op2 f g h k δ M = (f δ M).bind fun a M1 => (g δ M1).bind fun b M2 => (ofV (op a b M2)).bind fun z M3 => andK z ((h δ M3).bind fun c M4 => (ofV (op' b c M4)).bind fun z2 M5 => andK z2 ((k δ M5).bind fun d M6 => ofV (op2 c d M6)) M5) M3 := nr rfl
@[simp] theorem e_dCh : dCh op op' f g h δ M = (f δ M).bind fun a M1 => (g δ M1).bind fun b M2 => (ofV (op a b M2)).bind fun z M3 => andK z ((h δ M3).bind fun c M4 => ofV (op' b c M4)) M3 := nr rfl
@[simp] theorem e_tV : tV f δ M = (f δ M).bind tvK := nr rfl
@[simp] theorem e_tAnd : tAnd c0 c1 δ M = (c0 δ M).bind fun b M1 => if b = true then c1 δ M1 else .ok false M1 := nr rfl
@[simp] theorem e_tOr : tOr c0 c1 δ M = (c0 δ M).bind fun b M1 => if b = true then .ok true M1 else c1 δ M1 := nr rfl
@[simp] theorem e_tNot : tNot c0 δ M = (c0 δ M).bind fun b M1 => .ok (!b) M1 := nr rfl
@[simp] theorem e_dAnd : dAnd f g δ M = (f δ M).bind fun a M1 => andK a (g δ M1) M1 := nr rfl
@[simp] theorem e_dOr : dOr f g δ M = (f δ M).bind fun a M1 => orK a (g δ M1) M1 := nr rfl
@[simp] theorem e_dNot : dNot f δ M = (f δ M).bind notK := nr rfl
@[simp] theorem e_dIf : dIf c0 f g δ M = (c0 δ M).bind fun b M1 => if b = true then f δ M1 else g δ M1 := nr rfl
@[simp] theorem e_aNil : aNil δ M = .ok [] M := nr rfl
@[simp] theorem e_aCons : aCons f ga δ M = (f δ M).bind fun a M1 => (ga δ M1).bind fun l M2 => .ok (a :: l) M2 := nr rfl
@[simp] theorem e_dTup : dTup ga δ M = (ga δ M).bind fun l M1 => if l.length ≤ sizeLine then .ok (.tup l) M1 else .bad := nr rfl
@[simp] theorem e_dLst : dLst ga δ M = (ga δ M).bind fun l M1 => if l.length ≤ sizeLine then .ok (.ref M1.length) (M1 ++ [.lst l]) else .bad := nr rfl
@[simp] theorem e_dBlt : dBlt ol ga δ M = (ga δ M).bind fun l M1 => ofV (ol l M1) := nr rfl
@[simp] theorem e_dCall (φ : List D → Mem → Res D) : dCall φ n ga δ M = (ga δ M).bind fun l M1 => if l.length = n then φ l M1 else .bad := nr rfl
@[simp] theorem e_dMt (chk : D → Mem → Bool) (om : D → List D → Mem → OV) : dMt chk om f ga δ M = (f δ M).bind fun a M1 => if chk a M1 = true then (ga δ M1).bind fun l M2 => ofV (om a l M2) else .bad := nr rfl
@[simp] theorem e_dNoP : dNoP δ M = .ok none M := nr rfl
@[simp] theorem e_dPart : dPart f δ M = (f δ M).bind partK := nr rfl
@[simp] theorem e_dSl (p q : EF (Option Int)) : dSl f p q δ M = (f δ M).bind fun a M1 => (p δ M1).bind fun lo M2 => (q δ M2).bind fun hi M3 => ofV (oSl a lo hi M3) := nr rfl
@[simp] theorem e_sNil : sNil δ M = .nx δ M := nr rfl
@[simp] theorem e_sBrk : sBrk δ M = .bk δ M := nr rfl
@[simp] theorem e_sCnt : sCnt δ M = .ct δ M := nr rfl
@[simp] theorem e_sRetN : sRetN δ M = .rt .non M := nr rfl
@[simp] theorem e_sSeq : sSeq s s' δ M = seqK (s δ M) s' := by
  unfold sSeq
  cases s δ M <;> rfl
@[simp] theorem e_sAsg (t : GF D) : sAsg f t δ M = onV (f δ M) δ fun d M1 => onG (t d δ M1) .nx := nr rfl
@[simp] theorem e_sPar (js : List Nat) : sPar js ga δ M = onV (ga δ M) δ fun l M1 => if l.length = js.length then .nx ((js.zip l).foldl (fun δ p => δ.set p.1 (some p.2)) δ) M1 else .bad := nr rfl
@[simp] theorem e_sDrop : sDrop f δ M = onV (f δ M) δ fun _ M1 => .nx δ M1 := nr rfl
@[simp] theorem e_sRet : sRet f δ M = onV (f δ M) δ fun d M1 => .rt d M1 := nr rfl
@[simp] theorem e_sIf : sIf c0 s s' δ M = onV (c0 δ M) δ fun b M1 => if b = true then s δ M1 else s' δ M1 := nr rfl
@[simp] theorem e_gNm : gNm i d δ M = some (δ.set i (some d), M) := nr rfl
@[simp] theorem e_gsNil : gsNil [] δ M = some (δ, M) := nr rfl
@[simp] theorem e_forL_nil (t : GF D) : forL t s [] δ M = .nx δ M := nr rfl
theorem e_forL_cons (t : GF D) : forL t s (d :: l) δ M = onG (t d δ M) fun δ1 M1 => loopK (s δ1 M1) (forL t s l) := by
  conv => lhs; unfold forL
  rfl
@[simp] theorem e_gTp (t : GF (List D)) : gTp n t (.tup l) δ M = if l.length = n then t l δ M else none := nr rfl
end
@[simp] theorem e_gsCons (t : GF D) (ts : GF (List D)) (d : D) (l : List D) (δ : DEnv) (M : Mem) : gsCons t ts (d :: l) δ M = (t d δ M).bind fun p => ts l p.1 p.2 := nr rfl
/-! operations -/
section
variable {M : Mem} {i j : Int} {b : Bool} {l m : List D} {n k : Nat}
@[simp] theorem oAdd_int : oAdd (.int i) (.int j) M = some (.int (i + j), M) := nr rfl
@[simp] theorem oSub_int : oSub (.int i) (.int j) M = some (.int (i - j), M) := nr rfl
@[simp] theorem oLt_int : oLt (.int i) (.int j) M = some (.bl (decide (i < j)), M) := nr rfl
@[simp] theorem oLe_int : oLe (.int i) (.int j) M = some (.bl (decide (i ≤ j)), M) := nr rfl
@[simp] theorem oGt_int : oGt (.int i) (.int j) M = some (.bl (decide (j < i)), M) := nr rfl
@[simp] theorem oGe_int : oGe (.int i) (.int j) M = some (.bl (decide (j ≤ i)), M) := nr rfl
theorem oMod_int (h : 0 < j) : oMod (.int i) (.int j) M = some (.int (i % j), M) := by
  show (if 0 < j then some (D.int (i % j)) else none).map (fun d => (d, M)) = _
  rw [if_pos h]
  rfl
theorem log2_small {a : Nat} (h : a < 2 ^ 64) : a.log2 < 9000 := by
  by_cases h0 : a = 0
  · subst h0
    decide
  · have := (Nat.log2_lt h0).mpr h
    omega
theorem oFdiv_int (h : 0 < j) (hj : j < 2 ^ 64) : oFdiv (.int i) (.int j) M = some (.int (i / j), M) := by
  show (if 0 < j ∧ j.natAbs.log2 < 9000 then some (D.int (i / j)) else none).map (fun d => (d, M)) = _
  rw [if_pos ⟨h, log2_small (by omega)⟩]
  rfl
theorem oMul_int (h : (-(2 ^ 64) < i ∧ i < 2 ^ 64) ∨ (-(2 ^ 64) < j ∧ j < 2 ^ 64)) : oMul (.int i) (.int j) M = some (.int (i * j), M) := by
  show (if mulOk i j = true then some (D.int (i * j), M) else none) = _
  rw [if_pos]
  unfold mulOk
  rcases h with h | h
  · rw [decide_eq_true h]; rfl
  · rw [decide_eq_true h, Bool.or_true]; rfl
@[simp] theorem oAdd_tup : oAdd (.tup l) (.tup m) M = if l.length + m.length ≤ sizeLine then some (.tup (l ++ m), M) else none := nr rfl
theorem oAdd_lst (h1 : lstOf M n = some l) (h2 : lstOf M k = some m) (h : l.length + m.length ≤ sizeLine) : oAdd (.ref n) (.ref k) M = some (.ref M.length, M ++ [.lst (l ++ m)]) := by
  show (match lstOf M n, lstOf M k with
    | some l, some m => if l.length + m.length ≤ sizeLine then some (D.ref M.length, M ++ [MO.lst (l ++ m)]) else none
    | _, _ => none) = _
  rw [h1, h2]
  dsimp only
  rw [if_pos h]
@[simp] theorem oIx_tup : oIx (.tup l) (.int i) M = (L2.atI l i).map fun d => (d, M) := nr rfl
theorem oIx_lst (h : seqOf M n = some l) : oIx (.ref n) (.int i) M = (L2.atI l i).map fun d => (d, M) := by
  show ((seqOf M n).bind fun l => (L2.atI l i).map fun d => (d, M)) = _
  rw [h]
  rfl
@[simp] theorem oIsN_non : oIsN .non .non M = some (.bl true, M) := nr rfl
@[simp] theorem oIsN_tup : oIsN (.tup l) .non M = some (.bl false, M) := nr rfl
@[simp] theorem oLen_tup : oLen [.tup l] M = some (.int l.length, M) := nr rfl
theorem oLen_lst (h : seqOf M n = some l) : oLen [.ref n] M = some (.int l.length, M) := by
  show (seqOf M n).map (fun l => (D.int l.length, M)) = _
  rw [h]
  rfl
@[simp] theorem oToInt_int : oToInt [.int i] M = some (.int i, M) := nr rfl
@[simp] theorem oToInt_bl : oToInt [.bl b] M = some (.int (if b then 1 else 0), M) := nr rfl
@[simp] theorem oAbs_int : oAbs [.int i] M = some (.int (if i < 0 then -i else i), M) := nr rfl
@[simp] theorem oMax_int : oMax [.int i, .int j] M = some (.int (if j > i then j else i), M) := nr rfl
@[simp] theorem oMin_int : oMin [.int i, .int j] M = some (.int (if j < i then j else i), M) := nr rfl
theorem oSum_lst {ns : List Int} (h : seqOf M n = some (ns.map .int)) : oSum [.ref n] M = some (.int ns.sum, M) := by
  show (match (seqOf M n).bind intsD with
    | some ns => some (D.int ns.sum, M)
    | none => none) = _
  rw [h, Option.bind_some, intsD_of]
theorem oAll_lst {bs : List Bool} (h : seqOf M n = some (bs.map .bl)) : oAll [.ref n] M = some (.bl (bs.all id), M) := by
  show (match (seqOf M n).bind blsD with
    | some ns => some (D.bl (ns.all id), M)
    | none => none) = _
  rw [h, Option.bind_some, blsD_of]
theorem oIsi_ty {d : D} {a t : String} (h : tyOf M d = some a) {b : Bool} (hb : isiT a t = some b) : oIsi [d, .ty t] M = some (.bl b, M) := by
  show ((tyOf M d).bind fun a => (isiT a t).map fun b => (D.bl b, M)) = _
  rw [h, Option.bind_some, hb]
  rfl
@[simp] theorem isi_int_int : oIsi [.int i, .ty "int"] M = some (.bl true, M) := nr rfl
@[simp] theorem isi_int_bool : oIsi [.int i, .ty "bool"] M = some (.bl false, M) := nr rfl
@[simp] theorem isi_int_tuple : oIsi [.int i, .ty "tuple"] M = some (.bl false, M) := nr rfl
@[simp] theorem isi_tup_tuple : oIsi [.tup l, .ty "tuple"] M = some (.bl true, M) := nr rfl
@[simp] theorem isi_non_tuple : oIsi [.non, .ty "tuple"] M = some (.bl false, M) := nr rfl
theorem isi_lst {t : String} (h : seqOf M n = some l) : oIsi [.ref n, .ty t] M = (isiT "list" t).map fun b => (.bl b, M) := by
  show ((tyOf M (.ref n)).bind fun a => (isiT a t).map fun b => (D.bl b, M)) = _
  have : tyOf M (.ref n) = some "list" := by
    show (seqOf M n).map _ = _
    rw [h]
    rfl
  rw [this]
  rfl
@[simp] theorem isiT_ll : isiT "list" "list" = some true := nr rfl
@[simp] theorem isiT_lt : isiT "list" "tuple" = some false := nr rfl
end
end Pd
namespace Pd
open PySem
/-! ### loops as folds -/
section
variable {α β : Type} {g : GF D} {body : DS} (enc : β → D) (st : α → DEnv × Mem) (F : β → α → α) (P : α → Prop)
theorem forL_fold : ∀ (bs : List β) (a : α), P a → (∀ b ∈ bs, ∀ a, P a → P (F b a) ∧ ∃ δ1 M1, g (enc b) (st a).1 (st a).2 = some (δ1, M1) ∧ body δ1 M1 = .nx (st (F b a)).1 (st (F b a)).2) →
    forL g body (bs.map enc) (st a).1 (st a).2 = .nx (st (bs.foldl (fun a b => F b a) a)).1 (st (bs.foldl (fun a b => F b a) a)).2 ∧ P (bs.foldl (fun a b => F b a) a)
  | [], a, h, _ => ⟨rfl, h⟩
  | b :: bs, a, h, step => by
    obtain ⟨h1, δ1, M1, e1, e2⟩ := step b List.mem_cons_self a h
    rw [List.map_cons, e_forL_cons, e1, onG_some]
    dsimp only
    rw [e2, loopK_nx]
    exact forL_fold bs (F b a) h1 fun b' hb' => step b' (List.mem_cons_of_mem _ hb')
theorem forF_fold {n : Nat} {bs : List β} (hs : ∀ a, P a → seqOf (st a).2 n = some (bs.map enc)) (step : ∀ b ∈ bs, ∀ a, P a → P (F b a) ∧ ∃ δ1 M1, g (enc b) (st a).1 (st a).2 = some (δ1, M1) ∧ body δ1 M1 = .nx (st (F b a)).1 (st (F b a)).2) :
    ∀ (k i : Nat) (a : α), P a → bs.length - i < k → forF (.live n) g body k i (st a).1 (st a).2 = .nx (st ((bs.drop i).foldl (fun a b => F b a) a)).1 (st ((bs.drop i).foldl (fun a b => F b a) a)).2 ∧ P ((bs.drop i).foldl (fun a b => F b a) a)
  | 0, _, _, _, h => by omega
  | k + 1, i, a, h, hk => by
    unfold forF
    have e0 : Src.item (st a).2 i (.live n) = some (bs[i]?.map enc) := by
      show (seqOf (st a).2 n).map (fun l => l[i]?) = _
      rw [hs a h, Option.map_some, List.getElem?_map]
    rw [e0]
    cases c : bs[i]? with
    | none =>
      rw [List.drop_eq_nil_of_le (List.getElem?_eq_none_iff.mp c)]
      exact ⟨rfl, h⟩
    | some b =>
      obtain ⟨hi, eb⟩ := List.getElem?_eq_some_iff.mp c
      have hb : b ∈ bs := eb ▸ List.getElem_mem hi
      obtain ⟨h1, δ1, M1, e1, e2⟩ := step b hb a h
      rw [List.drop_eq_getElem_cons hi, eb]
      dsimp only [Option.map_some]
      rw [e1, onG_some]
      dsimp only
      rw [e2]
      exact forF_fold hs step k (i + 1) (F b a) h1 (by omega)
theorem live_fold {n : Nat} {bs : List β} (hs : ∀ a, P a → seqOf (st a).2 n = some (bs.map enc)) (step : ∀ b ∈ bs, ∀ a, P a → P (F b a) ∧ ∃ δ1 M1, g (enc b) (st a).1 (st a).2 = some (δ1, M1) ∧ body δ1 M1 = .nx (st (F b a)).1 (st (F b a)).2) (a : α) (h : P a) :
    loopS g body (.live n) (st a).1 (st a).2 = .nx (st (bs.foldl (fun a b => F b a) a)).1 (st (bs.foldl (fun a b => F b a) a)).2 := by
  have sz : Src.size (st a).2 (.live n) = bs.length := by
    show ((seqOf (st a).2 n).getD []).length = _
    rw [hs a h]
    simp
  show forF (.live n) g body (Src.size (st a).2 (.live n) + 1) 0 (st a).1 (st a).2 = _
  rw [sz]
  have := (forF_fold enc st F P hs step (bs.length + 1) 0 a h (by omega)).1
  rwa [List.drop_zero] at this
end
theorem e_sFor {src : EF Src} {g : GF D} {body : DS} {δ : DEnv} {M M1 : Mem} {s : Src} (h : src δ M = .ok s M1) : sFor src g body δ M = loopS g body s δ M1 := by
  unfold sFor
  rw [h, onV_ok]
theorem dSeqSrc_lst {f : EF D} {δ : DEnv} {M M1 : Mem} {n : Nat} {l : List D} (h : f δ M = .ok (.ref n) M1) (hl : seqOf M1 n = some l) : dSeqSrc f δ M = .ok (.live n) M1 := by
  unfold dSeqSrc
  rw [h]
  show (if (seqOf M1 n).isSome = true then Res.ok (Src.live n) M1 else .bad) = _
  rw [hl]
  rfl
theorem dRng1_ok {ga : EF (List D)} {δ : DEnv} {M M1 : Mem} {j : Nat} (h : ga δ M = .ok [.int j] M1) (hj : j < 2 ^ 62) : dRng1 ga δ M = .ok (.items ((List.range j).map fun k : Nat => .int k)) M1 := by
  unfold dRng1
  rw [h, bind_ok]
  dsimp only
  rw [if_pos ⟨by omega, by omega⟩]
  unfold intsR
  simp
theorem oSl_lst {M : Mem} {n : Nat} {l : List D} (h : seqOf M n = some l) (lo hi : Option Int) : oSl (.ref n) lo hi M = some (.ref M.length, M ++ [.lst (cutD l lo hi)]) := by
  show (seqOf M n).map (fun l => (D.ref M.length, M ++ [MO.lst (cutD l lo hi)])) = _
  rw [h]
  rfl
theorem cutD_tail (l : List D) : cutD l (some 1) none = l.drop 1 := by
  unfold cutD
  rw [HT.sIx_none, show (1 : Int) = ((1 : Nat) : Int) from rfl, HT.sIx_nat]
  cases l with
  | nil => rfl
  | cons a l => simp
end Pd
namespace Pd
open PySem
/-! ### in a list -/
theorem any_pln {a : D} {m : Nat} (ha : pln m a = true) : ∀ {l : List D} {n : Nat}, plnL n l = true → (toPyL l).any (fun z => PyData.eqv z (toPy a)) = l.any fun z => deq z a
  | [], _, _ => rfl
  | d :: l, n, h => by
    unfold plnL at h
    obtain ⟨h1, h2⟩ := Bool.and_eq_true_iff.mp h
    unfold toPyL
    rw [List.any_cons, List.any_cons, any_pln ha h2]
    congr 1
    rw [Bool.eq_iff_iff, eqv_pln d a n m h1 ha, deq_iff]
theorem oIn_tup {M : Mem} {t l : List D} {n k m : Nat} (hs : seqOf M k = some l) (ha : pln m (.tup t) = true) (hl : plnL n l = true) (hm : m < 20) (hn : n < 19) : oIn (.tup t) (.ref k) M = some (.bl (l.any fun z => deq z (.tup t)), M) := by
  obtain ⟨q1, q2⟩ := lay_pln (.tup t) m ha
  obtain ⟨q3, q4⟩ := layL_pln l n hl
  have e1 : pyD M FU (.tup t) = some (toPy (.tup t)) := pyD_pln M (.tup t) m FU ha hm
  have e2 : pyD M FU (.ref k) = some (.list (toPyL l)) := by
    show pyD M (19 + 1) (.ref k) = _
    unfold pyD
    rw [hs]
    dsimp only
    rw [pyL_pln M l n 19 hl hn]
    rfl
  have s1 : SeqAt.shaped (toPy (.tup t)) = true := by unfold SeqAt.shaped; rw [q1, decide_eq_true (by omega : (toPy (.tup t)).depth ≤ 64)]; rfl
  have s2 : SeqAt.shaped (.list (toPyL l)) = true := by
    unfold SeqAt.shaped PyData.canLay0 PyData.depth
    rw [q3, decide_eq_true (by omega)]
    rfl
  have e3 : inDeep (.tup t) (.ref k) M = some (l.any fun z => deq z (.tup t)) := by
    unfold inDeep
    dsimp only
    rw [e1, e2]
    dsimp only
    rw [s1, s2]
    show some _ = _
    rw [any_pln ha hl]
  show (dInB (.tup t) (.ref k) M).map _ = _
  have e4 : dInB (.tup t) (.ref k) M = some (l.any fun z => deq z (.tup t)) := by
    unfold dInB
    have i1 : inStr (.tup t) (.ref k) = none := rfl
    have i2 : inFlat (.tup t) (.ref k) M = none := rfl
    rw [i1, i2]
    exact e3
  rw [e4]
  rfl
/-! ### [..] if .. else [] -/
theorem e_ifLst {c : EF Bool} {x : D} {δ : DEnv} {M : Mem} {b : Bool} (h : c δ M = .ok b M) : dIf c (dLst (aCons (dC x) aNil)) (dLst aNil) δ M = .ok (.ref M.length) (M ++ [.lst (if b = true then [x] else [])]) := by
  have h1 : 1 ≤ sizeLine := by decide
  cases b <;> simp [h, h1]
theorem lstOf_end {M : Mem} {n : Nat} {l : List D} (h : n = M.length) : lstOf (M ++ [.lst l]) n = some l := by rw [h]; exact lstOf_mid M l []
theorem seqOf_end {M : Mem} {n : Nat} {l : List D} (h : n = M.length) : seqOf (M ++ [.lst l]) n = some l := by rw [h]; exact seqOf_mid M l []
theorem get_end {M : Mem} {m : MO} : (M ++ [m])[M.length]? = some m := by simp
/-! ### a list that grows in place -/
def onL (M1 : Mem) (A : List D) (G : Mem) : Mem := M1 ++ MO.lst A :: G
theorem onL_new (M1 : Mem) (A : List D) : M1 ++ [MO.lst A] = onL M1 A [] := rfl
theorem onL_snoc (M1 : Mem) (A : List D) (G : Mem) (m : MO) : onL M1 A G ++ [m] = onL M1 A (G ++ [m]) := by unfold onL; simp
@[simp] theorem seqOf_onL (M1 : Mem) (A : List D) (G : Mem) : seqOf (onL M1 A G) M1.length = some A := seqOf_mid M1 A G
@[simp] theorem lstOf_onL (M1 : Mem) (A : List D) (G : Mem) : lstOf (onL M1 A G) M1.length = some A := lstOf_mid M1 A G
theorem oApp_onL {M1 : Mem} {A : List D} {G : Mem} {d : D} (h : A.length < sizeLine) : oApp (.ref M1.length) [d] (onL M1 A G) = some (.non, onL M1 (A ++ [d]) G) := by
  show (match lstOf (onL M1 A G) M1.length with
    | some xs => if xs.length < sizeLine then some (D.non, (onL M1 A G).set M1.length (.lst (xs ++ [d]))) else none
    | none => none) = _
  rw [lstOf_onL]
  dsimp only
  rw [if_pos h]
  unfold onL
  rw [List.set_append_right _ _ (Nat.le_refl _), Nat.sub_self]
  rfl
theorem isLst_onL {M1 : Mem} {A : List D} {G : Mem} : isLst (.ref M1.length) (onL M1 A G) = true := by
  show (seqOf (onL M1 A G) M1.length).isSome = true
  rw [seqOf_onL]
  rfl
theorem e_app {M1 : Mem} {A : List D} {G : Mem} {f e : EF D} {d : D} {δ : DEnv} (hf : f δ (onL M1 A G) = .ok (.ref M1.length) (onL M1 A G)) (he : e δ (onL M1 A G) = .ok d (onL M1 A G)) (h : A.length < sizeLine) :
    dMt isLst oApp f (aCons e aNil) δ (onL M1 A G) = .ok .non (onL M1 (A ++ [d]) G) := by
  rw [e_dMt, hf, bind_ok, isLst_onL, if_pos rfl, e_aCons, he]
  simp [oApp_onL h]
theorem e_ifApp {M1 M : Mem} {A : List D} {G : Mem} {c : EF Bool} {f : EF D} {d : D} {b : Bool} {δ : DEnv} (hc : c δ M = .ok b (onL M1 A G)) (hf : f δ (onL M1 A G) = .ok (.ref M1.length) (onL M1 A G)) (h : A.length < sizeLine) :
    sIf c (sSeq (sDrop (dMt isLst oApp f (aCons (dC d) aNil))) (sNil)) (sNil) δ M = .nx δ (onL M1 (A ++ (if b = true then [d] else [])) G) := by
  rw [e_sIf, hc, onV_ok]
  cases b with
  | true => rw [if_pos rfl, if_pos rfl, e_sSeq, e_sDrop, e_app hf rfl h]; rfl
  | false => rw [if_neg Bool.false_ne_true, if_neg Bool.false_ne_true, List.append_nil]; rfl
end Pd
namespace Pd
open PySem
theorem gc_some (M X : Mem) (b : Bool) : ∃ M', gcR M (.ok (.bl b) X) = .ok (.bl b) M' := by
  show ∃ M', gcV M (.bl b) X = _
  unfold gcV
  split
  · exact ⟨X.take M.length, if_pos rfl⟩
  · exact ⟨_, rfl⟩
/-! ### loops by an invariant -/
theorem forL_inv {g : GF D} {body : DS} (I : Nat → DEnv → Mem → Prop) : ∀ (bs : List D) (k : Nat) (δ : DEnv) (M : Mem), I k δ M →
    (∀ i d, bs[i]? = some d → ∀ δ M, I (k + i) δ M → ∃ δ1 M1 δ2 M2, g d δ M = some (δ1, M1) ∧ body δ1 M1 = .nx δ2 M2 ∧ I (k + i + 1) δ2 M2) →
    ∃ δ' M', forL g body bs δ M = .nx δ' M' ∧ I (k + bs.length) δ' M'
  | [], k, δ, M, h, _ => ⟨δ, M, rfl, h⟩
  | b :: bs, k, δ, M, h, step => by
    obtain ⟨δ1, M1, δ2, M2, e1, e2, h2⟩ := step 0 b rfl δ M h
    obtain ⟨δ', M', e3, h3⟩ := forL_inv I bs (k + 1) δ2 M2 h2 fun i d hd δ M hI => by
      have := step (i + 1) d (by simpa using hd) δ M (by rw [show k + (i + 1) = k + 1 + i by omega]; exact hI)
      rw [show k + (i + 1) + 1 = k + 1 + i + 1 by omega] at this
      exact this
    refine ⟨δ', M', ?_, by rw [List.length_cons, show k + (bs.length + 1) = k + 1 + bs.length by omega]; exact h3⟩
    rw [e_forL_cons, e1, onG_some]
    dsimp only
    rw [e2, loopK_nx, e3]
theorem range_get {n i : Nat} {d : D} (h : ((List.range n).map fun k : Nat => D.int k)[i]? = some d) : d = .int i ∧ i < n := by
  rw [List.getElem?_map] at h
  by_cases hi : i < n
  · rw [List.getElem?_range hi] at h
    exact ⟨(Option.some.inj h).symm, hi⟩
  · rw [List.getElem?_eq_none (by rw [List.length_range]; omega)] at h
    cases h
/-- for over range: the turns -/
theorem for_range {g : GF D} {body : DS} {src : EF Src} {δ : DEnv} {M M1 : Mem} {n : Nat} (I : Nat → DEnv → Mem → Prop) (hs : src δ M = .ok (.items ((List.range n).map fun k : Nat => D.int k)) M1) (h0 : I 0 δ M1)
    (step : ∀ i, i < n → ∀ δ M, I i δ M → ∃ δ1 M1 δ2 M2, g (.int i) δ M = some (δ1, M1) ∧ body δ1 M1 = .nx δ2 M2 ∧ I (i + 1) δ2 M2) : ∃ δ' M', sFor src g body δ M = .nx δ' M' ∧ I n δ' M' := by
  rw [e_sFor hs]
  obtain ⟨δ', M', e, h⟩ := forL_inv I ((List.range n).map fun k : Nat => D.int k) 0 δ M1 h0 fun i d hd δ M hI => by
    obtain ⟨rfl, hi⟩ := range_get hd
    rw [Nat.zero_add] at hI ⊢
    exact step i hi δ M hI
  refine ⟨δ', M', e, ?_⟩
  simpa using h
theorem forF_inv {g : GF D} {body : DS} {n : Nat} {l : List D} (I : Nat → DEnv → Mem → Prop) (hI : ∀ i δ M, I i δ M → seqOf M n = some l)
    (step : ∀ i d, l[i]? = some d → ∀ δ M, I i δ M → ∃ δ1 M1 δ2 M2, g d δ M = some (δ1, M1) ∧ body δ1 M1 = .nx δ2 M2 ∧ I (i + 1) δ2 M2) : ∀ (k i : Nat) (δ : DEnv) (M : Mem), i ≤ l.length → l.length - i < k → I i δ M → ∃ δ' M', forF (.live n) g body k i δ M = .nx δ' M' ∧ I l.length δ' M'
  | 0, _, _, _, _, h, _ => by omega
  | k + 1, i, δ, M, hi, hk, h => by
    unfold forF
    have e0 : Src.item M i (.live n) = some l[i]? := by
      show (seqOf M n).map (fun l => l[i]?) = _
      rw [hI i δ M h]
      rfl
    rw [e0]
    cases c : l[i]? with
    | none =>
      have : i = l.length := by have := List.getElem?_eq_none_iff.mp c; omega
      subst this
      exact ⟨δ, M, rfl, h⟩
    | some d =>
      have hi2 := (List.getElem?_eq_some_iff.mp c).1
      obtain ⟨δ1, M1, δ2, M2, e1, e2, h2⟩ := step i d c δ M h
      obtain ⟨δ', M', e3, h3⟩ := forF_inv I hI step k (i + 1) δ2 M2 (by omega) (by omega) h2
      refine ⟨δ', M', ?_, h3⟩
      dsimp only
      rw [e1, onG_some]
      dsimp only
      rw [e2]
      exact e3
theorem for_live {g : GF D} {body : DS} {src : EF Src} {δ : DEnv} {M M1 : Mem} {n : Nat} {l : List D} (I : Nat → DEnv → Mem → Prop) (hs : src δ M = .ok (.live n) M1) (hI : ∀ i δ M, I i δ M → seqOf M n = some l) (h0 : I 0 δ M1)
    (step : ∀ i d, l[i]? = some d → ∀ δ M, I i δ M → ∃ δ1 M1 δ2 M2, g d δ M = some (δ1, M1) ∧ body δ1 M1 = .nx δ2 M2 ∧ I (i + 1) δ2 M2) : ∃ δ' M', sFor src g body δ M = .nx δ' M' ∧ I l.length δ' M' := by
  rw [e_sFor hs]
  have sz : Src.size M1 (.live n) = l.length := by
    show ((seqOf M1 n).getD []).length = _
    rw [hI 0 δ M1 h0]
    rfl
  show ∃ δ' M', forF (.live n) g body (Src.size M1 (.live n) + 1) 0 δ M1 = .nx δ' M' ∧ _
  rw [sz]
  exact forF_inv I hI step (l.length + 1) 0 δ M1 (Nat.zero_le _) (by omega) h0
/-! ### comprehensions over a list of the store -/
theorem compF_live {n : Nat} {g : GF D} {tt : EF Bool} {te : EF D} {δ : DEnv} {M0 : Mem} {l : List D} (hs : seqOf M0 n = some l) (p : D → Bool) (f : D → D)
    (h : ∀ d ∈ l, ∀ acc, ∃ δ', g d δ (M0 ++ [.lst acc]) = some (δ', M0 ++ [.lst acc]) ∧ tt δ' (M0 ++ [.lst acc]) = .ok (p d) (M0 ++ [.lst acc]) ∧ (p d = true → te δ' (M0 ++ [.lst acc]) = .ok (f d) (M0 ++ [.lst acc]))) :
    ∀ (k i : Nat) (acc : List D), l.length - i < k → acc.length + (l.length - i) ≤ sizeLine → compF M0.length g tt te δ (.live n) k i (M0 ++ [.lst acc]) = some (M0 ++ [.lst (acc ++ ((l.drop i).filter p).map f)])
  | 0, _, _, hk, _ => by omega
  | k + 1, i, acc, hk, hl => by
    unfold compF
    have e0 : Src.item (M0 ++ [.lst acc]) i (.live n) = some l[i]? := by
      show (seqOf (M0 ++ [.lst acc]) n).map (fun l => l[i]?) = _
      rw [seqOf_app _ hs]
      rfl
    rw [e0]
    cases c : l[i]? with
    | none =>
      rw [List.drop_eq_nil_of_le (List.getElem?_eq_none_iff.mp c)]
      simp
    | some d =>
      obtain ⟨hi, ed⟩ := List.getElem?_eq_some_iff.mp c
      have hd : d ∈ l := ed ▸ List.getElem_mem hi
      obtain ⟨δ', h1, h2, h3⟩ := h d hd acc
      have step : compStep M0.length g tt te δ d (M0 ++ [.lst acc]) = some (M0 ++ [.lst (acc ++ (if p d = true then [f d] else []))]) := by
        unfold compStep
        rw [h1]
        dsimp only
        rw [h2]
        dsimp only
        by_cases hp : p d = true
        · rw [if_pos hp, if_pos hp, h3 hp]
          dsimp only
          rw [lstOf_mid]
          dsimp only
          rw [if_pos (by omega)]
          simp
        · rw [if_neg hp, if_neg hp, List.append_nil]
      dsimp only
      rw [step, Option.bind_some, compF_live hs p f h k (i + 1) _ (by omega) (by rw [List.length_append]; split <;> simp <;> omega), List.drop_eq_getElem_cons hi, ed]
      by_cases hp : p d = true
      · simp [hp]
      · simp [hp]
theorem dLc_live {own : List Nat} {src : EF Src} {g : GF D} {tt : EF Bool} {te : EF D} {δ : DEnv} {M M1 : Mem} {n : Nat} {l : List D} (p : D → Bool) (f : D → D) (hs : src δ M = .ok (.live n) M1) (hq : seqOf M1 n = some l) (hl : l.length ≤ sizeLine)
    (h : ∀ d ∈ l, ∀ acc, ∃ δ', g d (wipeD δ own) (M1 ++ [.lst acc]) = some (δ', M1 ++ [.lst acc]) ∧ tt δ' (M1 ++ [.lst acc]) = .ok (p d) (M1 ++ [.lst acc]) ∧ (p d = true → te δ' (M1 ++ [.lst acc]) = .ok (f d) (M1 ++ [.lst acc]))) :
    dLc own src g tt te δ M = .ok (.ref M1.length) (M1 ++ [.lst ((l.filter p).map f)]) := by
  unfold dLc
  rw [hs, bind_ok]
  have sz : Src.size (M1 ++ [MO.lst []]) (.live n) = l.length := by
    show ((seqOf (M1 ++ [MO.lst []]) n).getD []).length = _
    rw [seqOf_app _ hq]
    rfl
  have e : compS M1.length g tt te (wipeD δ own) (.live n) (M1 ++ [MO.lst []]) = some (M1 ++ [.lst ((l.filter p).map f)]) := by
    show compF M1.length g tt te (wipeD δ own) (.live n) (Src.size (M1 ++ [MO.lst []]) (.live n) + 1) 0 (M1 ++ [MO.lst []]) = _
    rw [sz, compF_live hq p f h (l.length + 1) 0 [] (by omega) (by simpa using hl)]
    simp
  rw [e]
theorem dLive_ok {f : EF D} {δ : DEnv} {M M1 : Mem} {n : Nat} {l : List D} (h : f δ M = .ok (.ref n) M1) (hl : seqOf M1 n = some l) : dLive f δ M = .ok (.live n) M1 := by
  unfold dLive
  rw [h, bind_ok]
  show (if (seqOf M1 n).isSome = true then Res.ok (Src.live n) M1 else .bad) = _
  rw [hl]
  rfl
theorem strsD_map : ∀ (l : List Str), strsD (l.map D.str) = some l
  | [] => rfl
  | s :: l => by
    rw [List.map_cons]
    unfold strsD
    rw [strsD_map l]
    rfl
theorem oJoin_lst {M : Mem} {s : Str} {n : Nat} {ys : List Str} (h : seqOf M n = some (ys.map .str)) (hz : (ys.map (·.length)).sum + ys.length * s.length ≤ 16777216) : oJoin (.str s) [.ref n] M = some (.str (Txt.join s ys), M) := by
  show (match seqOf M n with
    | some m => match strsD m with
      | some ys => if (ys.map Str.length).sum + ys.length * s.length ≤ 16777216 then some (D.str (Txt.join s ys), M) else none
      | none => none
    | none => none) = _
  rw [h]
  dsimp only
  rw [strsD_map]
  dsimp only
  rw [if_pos hz]
/-! ### a store into a list -/
theorem e_gSb {f i : EF D} {d : D} {δ : DEnv} {M : Mem} {n j : Nat} {k : Int} {l : List D} (hf : f δ M = .ok (.ref n) M) (hi : i δ M = .ok (.int k) M) (hl : lstOf M n = some l) (hj : L2.ixN l.length k = some j) : gSb f i d δ M = some (δ, M.set n (.lst (l.set j d))) := by
  unfold gSb
  rw [hf]
  dsimp only
  rw [hi]
  dsimp only
  rw [hl]
  dsimp only
  rw [hj]
  rfl
theorem lstOf_set {M : Mem} {n : Nat} {l : List D} (h : n < M.length) : lstOf (M.set n (.lst l)) n = some l := by
  unfold lstOf
  rw [List.getElem?_set_self h]
theorem lstOf_lt {M : Mem} {n : Nat} {l : List D} (h : lstOf M n = some l) : n < M.length := by
  unfold lstOf at h
  split at h
  · rename_i e; exact (List.getElem?_eq_some_iff.mp e).1
  · cases h
theorem seqOf_lt {M : Mem} {n : Nat} {l : List D} (h : seqOf M n = some l) : n < M.length := by
  unfold seqOf at h
  split at h
  · rename_i e; exact (List.getElem?_eq_some_iff.mp e).1
  · rename_i e; exact (List.getElem?_eq_some_iff.mp e).1
  · cases h
theorem seqOf_set_ne {M : Mem} {n k : Nat} {m : MO} (h : k ≠ n) : seqOf (M.set n m) k = seqOf M k := by
  unfold seqOf
  rw [List.getElem?_set_ne (Ne.symm h)]
theorem set_app {M G : Mem} {n : Nat} {m : MO} (h : n < M.length) : (M ++ G).set n m = M.set n m ++ G := List.set_append_left _ _ h
/-! ### drawing: a list of two numbers is changed -/
def srcM (a b : Int) : MO := .lst [.int a, .int b]
def okS (M : Mem) (s : Nat) : Prop := ∃ a b : Int, lstOf M s = some [.int a, .int b] ∧ 0 ≤ a ∧ 0 ≤ b ∧ b < 2 ^ 40
/-- r: a value of P comes, the source at s goes on -/
def Dr (s : Nat) (M : Mem) (P : D → Prop) (r : Res D) : Prop := ∃ (d : D) (a b : Int), P d ∧ 0 ≤ a ∧ 0 ≤ b ∧ b < 2 ^ 40 ∧ r = .ok d (M.set s (srcM a b))
theorem okS.lt {M : Mem} {s : Nat} (h : okS M s) : s < M.length := by
  obtain ⟨a, b, e, _⟩ := h
  exact lstOf_lt e
theorem okS.app {M G : Mem} {s : Nat} (h : okS M s) : okS (M ++ G) s := by
  obtain ⟨a, b, e, r⟩ := h
  exact ⟨a, b, lstOf_app G e, r⟩
theorem okS.set {M : Mem} {s : Nat} {a b : Int} (h : s < M.length) (ha : 0 ≤ a) (hb : 0 ≤ b) (hb2 : b < 2 ^ 40) : okS (M.set s (srcM a b)) s := ⟨a, b, lstOf_set h, ha, hb, hb2⟩
theorem below_src (n : Nat) (a b : Int) : belowM n (srcM a b) = true := rfl
end Pd
namespace Pd
open PySem PySem.Spec PyProof.Rows L2
/-! ### tuples of texts in the top -/
def tupsB (K : PySem.W.Frag) (l : List (Str × List Str)) : Bool := l.all fun p => He.tupB K p.1 (p.2.map .str)
theorem tup_ok {fa : List He.Fa} {fn : List He.DefD} {K : PySem.W.Frag} {h : Heap} {mg : Str → Option Value} (X : K.In h) (Gn : h.Ns mainGlobals mg) (c : He.SaysD fa fn K) {T : TB} {lv : Nat} {P : Program} {w : World} {base : Heap} {G : List (Str × GD)} (g : GAll T lv P w K mg base G) :
    ∀ (l : List (Str × List Str)), (∀ p ∈ l, He.Fa.glo p.1 ∈ fa) → tupsB K l = true → GAll T lv P w K mg base (l.map (fun p => (p.1, GD.tup p.2)) ++ G)
  | [], _, _ => g
  | p :: l, hs, hb => by
    have hb' : (He.tupB K p.1 (p.2.map .str) && tupsB K l) = true := hb
    obtain ⟨b1, b2⟩ := Bool.and_eq_true_iff.mp hb'
    refine (tup_ok X Gn c g l (fun q hq => hs q (List.mem_cons_of_mem _ hq)) b2).add (Nat.le_refl _) ?_
    refine ⟨_, He.glo_ok X Gn (c.facts (hs p List.mem_cons_self)), fun H => ?_⟩
    have := He.tupB_ok b1 H
    rwa [List.map_map, show (He.Dv.v K ∘ He.Dv.str) = V.str from rfl] at this
end Pd
namespace Pd
open PySem
/-! ### what comes: stepping backwards -/
def WQ {α : Type} (r : α) (Q : α → Prop) : Prop := Q r
/-- a turn of a loop, and what comes behind the loop -/
def StepQ (I : DEnv → Mem → Prop) (k : DEnv → Mem → ResS) (Q : ResS → Prop) : ResS → Prop
  | .nx δ M => I δ M
  | .ct δ M => I δ M
  | .bk δ M => Q (k δ M)
  | .rt d M => Q (.rt d M)
  | .exc x δ M => Q (.exc x δ M)
  | .bad => False
theorem wq_forL {g : GF D} {body : DS} {k : DEnv → Mem → ResS} {Q : ResS → Prop} (I : Nat → DEnv → Mem → Prop) : ∀ (l : List D) (i0 : Nat) (δ : DEnv) (M : Mem), I i0 δ M →
    (∀ i d, l[i]? = some d → ∀ δ M, I (i0 + i) δ M → WQ (onG (g d δ M) body) (StepQ (I (i0 + i + 1)) k Q)) → (∀ δ M, I (i0 + l.length) δ M → WQ (k δ M) Q) →
    WQ (seqK (forL g body l δ M) k) Q
  | [], i0, δ, M, h, _, hp => hp δ M h
  | d :: l, i0, δ, M, h, st, hp => by
    have s0 := st 0 d rfl δ M h
    rw [e_forL_cons]
    have rest : ∀ δ2 M2, I (i0 + 1) δ2 M2 → WQ (seqK (forL g body l δ2 M2) k) Q := fun δ2 M2 h2 => wq_forL I l (i0 + 1) δ2 M2 h2 (fun i d' hd δ M hI => by
      have := st (i + 1) d' (by simpa using hd) δ M (by rw [show i0 + (i + 1) = i0 + 1 + i by omega]; exact hI)
      rwa [show i0 + (i + 1) + 1 = i0 + 1 + i + 1 by omega] at this) fun δ M hI => hp δ M (by rw [List.length_cons, show i0 + (l.length + 1) = i0 + 1 + l.length by omega]; exact hI)
    cases hg : g d δ M with
    | none => rw [hg] at s0; exact s0.elim
    | some p =>
      rw [hg] at s0
      show WQ (seqK (loopK (body p.1 p.2) (forL g body l)) k) Q
      have s0 : WQ (body p.1 p.2) (StepQ (I (i0 + 0 + 1)) k Q) := s0
      cases hb : body p.1 p.2 with
      | nx δ2 M2 => rw [hb] at s0; exact rest _ _ s0
      | ct δ2 M2 => rw [hb] at s0; exact rest _ _ s0
      | bk δ2 M2 => rw [hb] at s0; exact s0
      | rt d2 M2 => rw [hb] at s0; exact s0
      | exc x δ2 M2 => rw [hb] at s0; exact s0
      | bad => rw [hb] at s0; exact s0.elim
theorem wq_for {src : EF Src} {g : GF D} {body : DS} {k : DEnv → Mem → ResS} {Q : ResS → Prop} {δ : DEnv} {M : Mem} (l : List D) (I : Nat → DEnv → Mem → Prop)
    (hs : ∃ M1, src δ M = .ok (.items l) M1 ∧ I 0 δ M1)
    (st : ∀ i d, l[i]? = some d → ∀ δ M, I i δ M → WQ (onG (g d δ M) body) (StepQ (I (i + 1)) k Q)) (hp : ∀ δ M, I l.length δ M → WQ (k δ M) Q) :
    WQ (seqK (sFor src g body δ M) k) Q := by
  obtain ⟨M1, e, h0⟩ := hs
  rw [e_sFor e]
  exact wq_forL I l 0 δ M1 h0 (fun i d hd δ M hI => by rw [Nat.zero_add] at hI ⊢; exact st i d hd δ M hI) fun δ M hI => hp δ M (by rwa [Nat.zero_add] at hI)
/-- over range(n) -/
theorem wq_rng {src : EF Src} {g : GF D} {body : DS} {k : DEnv → Mem → ResS} {Q : ResS → Prop} {δ : DEnv} {M : Mem} (n : Nat) (I : Nat → DEnv → Mem → Prop)
    (hs : ∃ M1, src δ M = .ok (.items ((List.range n).map fun k : Nat => D.int k)) M1 ∧ I 0 δ M1)
    (st : ∀ i, i < n → ∀ δ M, I i δ M → WQ (onG (g (.int i) δ M) body) (StepQ (I (i + 1)) k Q)) (hp : ∀ δ M, I n δ M → WQ (k δ M) Q) :
    WQ (seqK (sFor src g body δ M) k) Q :=
  wq_for _ I hs (fun i d hd δ M hI => by obtain ⟨rfl, hi⟩ := range_get hd; exact st i hi δ M hI) fun δ M hI => hp δ M (by simpa using hI)
/-- over a list of the store, which stays -/
theorem wq_forF {n : Nat} {g : GF D} {body : DS} {k : DEnv → Mem → ResS} {Q : ResS → Prop} (en : Bool) (l : List D) (I : Nat → DEnv → Mem → Prop) (hI : ∀ i δ M, I i δ M → seqOf M n = some l)
    (st : ∀ i d, l[i]? = some d → ∀ δ M, I i δ M → WQ (onG (g (if en = true then .tup [.int i, d] else d) δ M) body) (StepQ (I (i + 1)) k Q)) (hp : ∀ δ M, I l.length δ M → WQ (k δ M) Q) :
    ∀ (m i : Nat) (δ : DEnv) (M : Mem), i ≤ l.length → l.length - i < m → I i δ M → WQ (seqK (forF (if en = true then .liveE n else .live n) g body m i δ M) k) Q
  | 0, _, _, _, _, h, _ => by omega
  | m + 1, i, δ, M, hi, hk, h => by
    unfold forF
    have e0 : Src.item M i (if en = true then .liveE n else .live n) = some (l[i]?.map fun d => if en = true then .tup [.int (i : Nat), d] else d) := by
      cases en with
      | true =>
        show (seqOf M n).map (fun l => l[i]?.map fun d => D.tup [.int (i : Nat), d]) = _
        rw [hI i δ M h]
        rfl
      | false =>
        show (seqOf M n).map (fun l => l[i]?) = _
        rw [hI i δ M h]
        simp
    rw [e0]
    cases c : l[i]? with
    | none =>
      have : i = l.length := by have := List.getElem?_eq_none_iff.mp c; omega
      subst this
      exact hp δ M h
    | some d =>
      have hi2 := (List.getElem?_eq_some_iff.mp c).1
      have s0 := st i d c δ M h
      dsimp only [Option.map_some]
      generalize (if en = true then D.tup [.int (i : Nat), d] else d) = d' at s0 ⊢
      have rest : ∀ δ2 M2, I (i + 1) δ2 M2 → WQ (seqK (forF (if en = true then .liveE n else .live n) g body m (i + 1) δ2 M2) k) Q := fun δ2 M2 h2 => wq_forF en l I hI st hp m (i + 1) δ2 M2 (by omega) (by omega) h2
      cases hg : g d' δ M with
      | none => rw [hg] at s0; exact s0.elim
      | some p =>
        rw [hg] at s0
        rw [onG_some]
        have s0 : WQ (body p.1 p.2) (StepQ (I (i + 1)) k Q) := s0
        cases hb : body p.1 p.2 with
        | nx δ2 M2 => rw [hb] at s0; exact rest _ _ s0
        | ct δ2 M2 => rw [hb] at s0; exact rest _ _ s0
        | bk δ2 M2 => rw [hb] at s0; exact s0
        | rt d2 M2 => rw [hb] at s0; exact s0
        | exc x δ2 M2 => rw [hb] at s0; exact s0
        | bad => rw [hb] at s0; exact s0.elim
theorem wq_live {src : EF Src} {g : GF D} {body : DS} {k : DEnv → Mem → ResS} {Q : ResS → Prop} {δ : DEnv} {M : Mem} (n : Nat) (l : List D) (I : Nat → DEnv → Mem → Prop)
    (hI : ∀ i δ M, I i δ M → seqOf M n = some l) (hs : ∃ M1, src δ M = .ok (.live n) M1 ∧ I 0 δ M1)
    (st : ∀ i d, l[i]? = some d → ∀ δ M, I i δ M → WQ (onG (g d δ M) body) (StepQ (I (i + 1)) k Q)) (hp : ∀ δ M, I l.length δ M → WQ (k δ M) Q) :
    WQ (seqK (sFor src g body δ M) k) Q := by
  obtain ⟨M1, e, h0⟩ := hs
  rw [e_sFor e]
  have sz : Src.size M1 (.live n) = l.length := by
    show ((seqOf M1 n).getD []).length = _
    rw [hI 0 δ M1 h0]
    rfl
  show WQ (seqK (forF (.live n) g body (Src.size M1 (.live n) + 1) 0 δ M1) k) Q
  rw [sz]
  exact wq_forF false l I hI st hp (l.length + 1) 0 δ M1 (Nat.zero_le _) (by omega) h0
/-- a while by a measure -/
theorem wq_while {c : EF Bool} {body : DS} {k : DEnv → Mem → ResS} {Q : ResS → Prop} (I : Nat → DEnv → Mem → Prop)
    (st : ∀ m δ M, I m δ M → ∃ b M1, c δ M = .ok b M1 ∧ if b = true then WQ (body δ M1) (StepQ (fun δ M => ∃ m', m' < m ∧ I m' δ M) k Q) else WQ (k δ M1) Q)
    : ∀ (m : Nat) (δ : DEnv) (M : Mem), I m δ M → WQ (seqK (sWh c body δ M) k) Q := by
  have key : ∀ (m : Nat) (δ : DEnv) (M : Mem), I m δ M → ∃ n, whF c body n δ M ≠ .bad ∧ WQ (seqK (whF c body n δ M) k) Q := by
    intro m
    induction m using Nat.strongRecOn with
    | _ m ih =>
      intro δ M h
      obtain ⟨b, M1, e, s⟩ := st m δ M h
      cases b with
      | false =>
        refine ⟨1, ?_, ?_⟩
        · unfold whF; rw [e]; exact nofun
        · unfold whF; rw [e]; exact s
      | true =>
        rw [if_pos rfl] at s
        cases hb : body δ M1 with
        | nx δ2 M2 =>
          rw [hb] at s
          obtain ⟨m', hm, h'⟩ := s
          obtain ⟨n, h1, h2⟩ := ih m' hm δ2 M2 h'
          have e2 : whF c body (n + 1) δ M = whF c body n δ2 M2 := by
            conv => lhs; unfold whF
            rw [e, onV_ok, if_pos rfl, hb]
          exact ⟨n + 1, by rw [e2]; exact h1, by rw [e2]; exact h2⟩
        | ct δ2 M2 =>
          rw [hb] at s
          obtain ⟨m', hm, h'⟩ := s
          obtain ⟨n, h1, h2⟩ := ih m' hm δ2 M2 h'
          have e2 : whF c body (n + 1) δ M = whF c body n δ2 M2 := by
            conv => lhs; unfold whF
            rw [e, onV_ok, if_pos rfl, hb]
          exact ⟨n + 1, by rw [e2]; exact h1, by rw [e2]; exact h2⟩
        | bk δ2 M2 =>
          rw [hb] at s
          have e2 : whF c body 1 δ M = .nx δ2 M2 := by
            unfold whF
            rw [e, onV_ok, if_pos rfl, hb]
          exact ⟨1, by rw [e2]; exact nofun, by rw [e2]; exact s⟩
        | rt d M2 =>
          rw [hb] at s
          have e2 : whF c body 1 δ M = .rt d M2 := by
            unfold whF
            rw [e, onV_ok, if_pos rfl, hb]
          exact ⟨1, by rw [e2]; exact nofun, by rw [e2]; exact s⟩
        | exc x δ2 M2 =>
          rw [hb] at s
          have e2 : whF c body 1 δ M = .exc x δ2 M2 := by
            unfold whF
            rw [e, onV_ok, if_pos rfl, hb]
          exact ⟨1, by rw [e2]; exact nofun, by rw [e2]; exact s⟩
        | bad => rw [hb] at s; exact s.elim
  intro m δ M h
  obtain ⟨n, h1, h2⟩ := key m δ M h
  rwa [sWh_of n rfl h1]
/-! ### the same, sealed: nothing looks into it -/
@[irreducible] def WP {α : Type} (r : α) (Q : α → Prop) : Prop := Q r
theorem wp_eq {α : Type} (r : α) (Q : α → Prop) : WP r Q = Q r := by unfold WP; rfl
theorem wp_of {α : Type} {r : α} {Q : α → Prop} (h : Q r) : WP r Q := by rw [wp_eq]; exact h
theorem wp_to {α : Type} {r : α} {Q : α → Prop} (h : WP r Q) : Q r := by rw [wp_eq] at h; exact h
section
variable {I : DEnv → Mem → Prop} {k : DEnv → Mem → ResS} {Q : ResS → Prop} {δ : DEnv} {M : Mem} {d : D} {x : Exn}
@[simp] theorem step_nx : WP (ResS.nx δ M) (StepQ I k Q) = I δ M := by rw [wp_eq]; rfl
@[simp] theorem step_ct : WP (ResS.ct δ M) (StepQ I k Q) = I δ M := by rw [wp_eq]; rfl
@[simp] theorem step_bk : WP (ResS.bk δ M) (StepQ I k Q) = WP (k δ M) Q := by rw [wp_eq, wp_eq]; rfl
@[simp] theorem step_rt : WP (ResS.rt d M) (StepQ I k Q) = WP (ResS.rt d M) Q := by rw [wp_eq, wp_eq]; rfl
@[simp] theorem step_exc : WP (ResS.exc x δ M) (StepQ I k Q) = WP (ResS.exc x δ M) Q := by rw [wp_eq, wp_eq]; rfl
end
theorem wp_toQ {α : Type} {r : α} {Q : α → Prop} (h : WP r Q) : WQ r Q := wp_to (r := r) (Q := Q) h
theorem wp_for {src : EF Src} {g : GF D} {body : DS} {k : DEnv → Mem → ResS} {Q : ResS → Prop} {δ : DEnv} {M : Mem} (l : List D) (I : Nat → DEnv → Mem → Prop)
    (hs : ∃ M1, src δ M = .ok (.items l) M1 ∧ I 0 δ M1)
    (st : ∀ i d, l[i]? = some d → ∀ δ M, I i δ M → WP (onG (g d δ M) body) (StepQ (I (i + 1)) k Q)) (hp : ∀ δ M, I l.length δ M → WP (k δ M) Q) :
    WP (seqK (sFor src g body δ M) k) Q :=
  wp_of (wq_for l I hs (fun i d hd δ M h => wp_toQ (st i d hd δ M h)) fun δ M h => wp_toQ (hp δ M h))
theorem wp_rng {src : EF Src} {g : GF D} {body : DS} {k : DEnv → Mem → ResS} {Q : ResS → Prop} {δ : DEnv} {M : Mem} (n : Nat) (I : Nat → DEnv → Mem → Prop)
    (hs : ∃ M1, src δ M = .ok (.items ((List.range n).map fun k : Nat => D.int k)) M1 ∧ I 0 δ M1)
    (st : ∀ i, i < n → ∀ δ M, I i δ M → WP (onG (g (.int i) δ M) body) (StepQ (I (i + 1)) k Q)) (hp : ∀ δ M, I n δ M → WP (k δ M) Q) :
    WP (seqK (sFor src g body δ M) k) Q :=
  wp_of (wq_rng n I hs (fun i hi δ M h => wp_toQ (st i hi δ M h)) fun δ M h => wp_toQ (hp δ M h))
theorem wp_live {src : EF Src} {g : GF D} {body : DS} {k : DEnv → Mem → ResS} {Q : ResS → Prop} {δ : DEnv} {M : Mem} (n : Nat) (l : List D) (I : Nat → DEnv → Mem → Prop)
    (hI : ∀ i δ M, I i δ M → seqOf M n = some l) (hs : ∃ M1, src δ M = .ok (.live n) M1 ∧ I 0 δ M1)
    (st : ∀ i d, l[i]? = some d → ∀ δ M, I i δ M → WP (onG (g d δ M) body) (StepQ (I (i + 1)) k Q)) (hp : ∀ δ M, I l.length δ M → WP (k δ M) Q) :
    WP (seqK (sFor src g body δ M) k) Q :=
  wp_of (wq_live n l I hI hs (fun i d hd δ M h => wp_toQ (st i d hd δ M h)) fun δ M h => wp_toQ (hp δ M h))
theorem wp_while {c : EF Bool} {body : DS} {k : DEnv → Mem → ResS} {Q : ResS → Prop} (I : Nat → DEnv → Mem → Prop)
    (st : ∀ m δ M, I m δ M → ∃ b M1, c δ M = .ok b M1 ∧ if b = true then WP (body δ M1) (StepQ (fun δ M => ∃ m', m' < m ∧ I m' δ M) k Q) else WP (k δ M1) Q)
    (m : Nat) (δ : DEnv) (M : Mem) (h : I m δ M) : WP (seqK (sWh c body δ M) k) Q :=
  wp_of (wq_while I (fun m δ M h => by
    obtain ⟨b, M1, e, s⟩ := st m δ M h
    refine ⟨b, M1, e, ?_⟩
    cases b with
    | true => rw [if_pos rfl] at s ⊢; exact wp_toQ s
    | false => rw [if_neg Bool.false_ne_true] at s ⊢; exact wp_toQ s) m δ M h)
/-! ### the reading of a def -/
theorem fn_of {n : Nat} {den : DS} {l : List D} {M : Mem} {R : Res D} (h : WP (den (l.map some ++ List.replicate (n - l.length) none) M) (fun r => gcR M (toR r) = R)) : fnOf n den l M = R := wp_to (Q := fun r => gcR M (toR r) = R) h
@[simp] theorem wp_rt {d : D} {M M0 : Mem} {R : Res D} : WP (ResS.rt d M) (fun r => gcR M0 (toR r) = R) = (gcR M0 (.ok d M) = R) := by rw [wp_eq]; rfl
@[simp] theorem wp_nx {δ : DEnv} {M M0 : Mem} {R : Res D} : WP (ResS.nx δ M) (fun r => gcR M0 (toR r) = R) = (gcR M0 (.ok .non M) = R) := by rw [wp_eq]; rfl
@[simp] theorem wp_exc {x : Exn} {δ : DEnv} {M M0 : Mem} {R : Res D} : WP (ResS.exc x δ M) (fun r => gcR M0 (toR r) = R) = (gcR M0 (.exc x M) = R) := by rw [wp_eq]; rfl
/-! ### the store's new part -/
section
variable (M G : Mem) (m : MO) (l : List D) (n k : Nat)
theorem sizeLine_val : sizeLine = 16777216 := by decide
theorem seqOf_new : seqOf (M ++ G) (M.length + k) = seqOf G k := by
  unfold seqOf
  rw [List.getElem?_append_right (by omega), Nat.add_sub_cancel_left]
theorem seqOf_new0 : seqOf (M ++ G) M.length = seqOf G 0 := by
  unfold seqOf
  rw [List.getElem?_append_right (Nat.le_refl _), Nat.sub_self]
theorem lstOf_new : lstOf (M ++ G) (M.length + k) = lstOf G k := by
  unfold lstOf
  rw [List.getElem?_append_right (by omega), Nat.add_sub_cancel_left]
theorem lstOf_new0 : lstOf (M ++ G) M.length = lstOf G 0 := by
  unfold lstOf
  rw [List.getElem?_append_right (Nat.le_refl _), Nat.sub_self]
theorem seqOf_c0 : seqOf (.lst l :: G) 0 = some l := nr rfl
theorem seqOf_cS : seqOf (m :: G) (k + 1) = seqOf G k := nr rfl
theorem lstOf_c0 : lstOf (.lst l :: G) 0 = some l := nr rfl
theorem lstOf_cS : lstOf (m :: G) (k + 1) = lstOf G k := nr rfl
theorem seqOf_old (h : n < M.length) : seqOf (M ++ G) n = seqOf M n := by
  unfold seqOf
  rw [List.getElem?_append_left h]
theorem lstOf_old (h : n < M.length) : lstOf (M ++ G) n = lstOf M n := by
  unfold lstOf
  rw [List.getElem?_append_left h]
theorem setM_new : (M ++ G).set (M.length + k) m = M ++ G.set k m := by
  rw [List.set_append_right _ _ (by omega), Nat.add_sub_cancel_left]
theorem setM_new0 : (M ++ G).set M.length m = M ++ G.set 0 m := by
  rw [List.set_append_right _ _ (Nat.le_refl _), Nat.sub_self]
theorem setM_old (h : n < M.length) : (M ++ G).set n m = M.set n m ++ G := List.set_append_left _ _ h
theorem oAdd_ref : oAdd (.ref n) (.ref k) M = (lstOf M n).bind fun l => (lstOf M k).bind fun m => if l.length + m.length ≤ sizeLine then some (.ref M.length, M ++ [.lst (l ++ m)]) else none := by
  show (match lstOf M n, lstOf M k with
    | some l, some m => if l.length + m.length ≤ sizeLine then some (D.ref M.length, M ++ [MO.lst (l ++ m)]) else none
    | _, _ => none) = _
  cases lstOf M n <;> cases lstOf M k <;> rfl
theorem oIx_ref (i : Int) : oIx (.ref n) (.int i) M = (seqOf M n).bind fun l => (L2.atI l i).map fun d => (d, M) := nr rfl
theorem oLen_ref : oLen [.ref n] M = (seqOf M n).map fun l => (.int l.length, M) := nr rfl
theorem oToTup_ref : oToTup [.ref n] M = (seqOf M n).map fun l => (.tup l, M) := nr rfl
theorem oToTup_tup : oToTup [.tup l] M = some (.tup l, M) := nr rfl
theorem oToLst_ref : oToLst [.ref n] M = (seqOf M n).map fun l => (.ref M.length, M ++ [.lst l]) := nr rfl
theorem oToLst_tup : oToLst [.tup l] M = some (.ref M.length, M ++ [.lst l]) := nr rfl
theorem oSl_ref (lo hi : Option Int) : oSl (.ref n) lo hi M = (seqOf M n).map fun l => (.ref M.length, M ++ [.lst (cutD l lo hi)]) := nr rfl
theorem oSl_tup (lo hi : Option Int) : oSl (.tup l) lo hi M = some (.tup (cutD l lo hi), M) := nr rfl
theorem isLst_ref : isLst (.ref n) M = (seqOf M n).isSome := nr rfl
theorem oApp_ref (d : D) : oApp (.ref n) [d] M = (lstOf M n).bind fun xs => if xs.length < sizeLine then some (.non, M.set n (.lst (xs ++ [d]))) else none := by
  show (match lstOf M n with
    | some xs => if xs.length < sizeLine then some (D.non, M.set n (.lst (xs ++ [d]))) else none
    | none => none) = _
  cases lstOf M n <;> rfl
theorem dSeqSrc_bind (f : EF D) (δ : DEnv) : dSeqSrc f δ M = (f δ M).bind fun a M1 => match a with
  | .tup l => .ok (.items l) M1
  | .ref n => if (seqOf M1 n).isSome then .ok (.live n) M1 else .bad
  | _ => .bad := rfl
theorem dRng1_bind (g : EF (List D)) (δ : DEnv) : dRng1 g δ M = (g δ M).bind fun l M1 => match l with
  | [.int j] => if -(2 ^ 62) ≤ j ∧ j < 2 ^ 62 then .ok (.items (intsR 0 j.toNat)) M1 else .bad
  | _ => .bad := rfl
theorem intsR0 (j : Nat) : intsR 0 j = (List.range j).map fun k : Nat => D.int k := by
  unfold intsR
  congr 1
  funext k
  rw [Int.zero_add]
end
end Pd
namespace Pd
open PySem
/-! ### slices, places -/
theorem cutD_to (l : List D) (k : Nat) : cutD l none (some (k : Int)) = l.take k := by
  unfold cutD
  rw [HT.sIx_none, HT.sIx_nat, Nat.sub_zero, List.drop_zero]
  rcases Nat.le_total k l.length with h | h
  · rw [Nat.min_eq_left h]
  · rw [Nat.min_eq_right h, List.take_length, List.take_of_length_le h]
theorem cutD_from (l : List D) (k : Nat) : cutD l (some (k : Int)) none = l.drop k := by
  unfold cutD
  rw [HT.sIx_none, HT.sIx_nat]
  rcases Nat.le_total k l.length with h | h
  · rw [Nat.min_eq_left h, List.take_of_length_le (by rw [List.length_drop]; omega)]
  · rw [Nat.min_eq_right h, List.drop_length, List.take_nil, List.drop_of_length_le h]
theorem cutD_at (l : List D) (j k : Nat) : cutD l (some (j : Int)) (some (k : Int)) = (l.take k).drop j := by
  unfold cutD
  rw [HT.sIx_nat, HT.sIx_nat, List.drop_take]
  rcases Nat.le_total k l.length with h | h <;> rcases Nat.le_total j l.length with g | g
  · rw [Nat.min_eq_left h, Nat.min_eq_left g]
  · rw [Nat.min_eq_left h, Nat.min_eq_right g, List.drop_length, List.take_nil, List.drop_of_length_le g, List.take_nil]
  · rw [Nat.min_eq_right h, Nat.min_eq_left g, List.take_of_length_le (by rw [List.length_drop]; omega), List.take_of_length_le (by rw [List.length_drop]; omega)]
  · rw [Nat.min_eq_right h, Nat.min_eq_right g, List.drop_length, List.take_nil, List.drop_of_length_le g, List.take_nil]
theorem cutD_none (l : List D) : cutD l none none = l := by
  unfold cutD
  rw [HT.sIx_none, HT.sIx_none, List.drop_zero, Nat.sub_zero, List.take_length]
theorem set_cut {α : Type} (l : List α) (i : Nat) (a : α) (h : i < l.length) : l.take i ++ (a :: l.drop (i + 1)) = l.set i a := by
  rw [List.set_eq_take_append_cons_drop, if_pos h]
theorem atI_lt {l : List D} {i : Nat} (h : i < l.length) : L2.atI l (i : Int) = some l[i] := atI_nat (List.getElem?_eq_getElem h)
theorem atI_some {l : List D} {i : Nat} {d : D} (h : l[i]? = some d) : L2.atI l (i : Int) = some d := atI_nat h
theorem ixN_nat {n i : Nat} (h : i < n) : L2.ixN n (i : Int) = some i := by
  unfold L2.ixN
  rw [if_pos (by omega), if_pos (by omega)]
  rfl
theorem intsD_ints (ns : List Int) : intsD (ns.map D.int) = some ns := intsD_of ns
theorem oMin_tup (x : Int) (ns : List Int) (M : Mem) : oMin [.tup (.int x :: ns.map D.int)] M = some (.int (minL ns x), M) := by
  show (match intsD (.int x :: ns.map D.int) with
    | some (x :: r) => some (D.int (minL r x), M)
    | _ => none) = _
  have : intsD (.int x :: ns.map D.int) = some (x :: ns) := intsD_of (x :: ns)
  rw [this]
theorem oMin_ref {n : Nat} {M : Mem} {x : Int} {ns : List Int} (h : seqOf M n = some ((x :: ns).map D.int)) : oMin [.ref n] M = some (.int (minL ns x), M) := by
  show (match (seqOf M n).bind intsD with
    | some (x :: r) => some (D.int (minL r x), M)
    | _ => none) = _
  rw [h, Option.bind_some, intsD_of]
theorem oMax_ref {n : Nat} {M : Mem} {x : Int} {ns : List Int} (h : seqOf M n = some ((x :: ns).map D.int)) : oMax [.ref n] M = some (.int (maxL ns x), M) := by
  show (match (seqOf M n).bind intsD with
    | some (x :: r) => some (D.int (maxL r x), M)
    | _ => none) = _
  rw [h, Option.bind_some, intsD_of]
@[simp] theorem oNotN_non {M : Mem} : oNotN .non .non M = some (.bl false, M) := nr rfl
@[simp] theorem oNotN_tup {M : Mem} {l : List D} : oNotN (.tup l) .non M = some (.bl true, M) := nr rfl
/-- over enumerate of a tuple -/
theorem dEnum_tup {f : EF D} {δ : DEnv} {M M1 : Mem} {l : List D} (h : f δ M = .ok (.tup l) M1) : dEnumL (aCons f aNil) δ M = .ok (.items (enumD 0 l)) M1 := by
  unfold dEnumL
  simp [h]
/-! ### one statement behind another -/
theorem wp_seq {r : ResS} {k : DEnv → Mem → ResS} {Q : ResS → Prop} (P : DEnv → Mem → Prop) (h : WP r (fun r => ∃ δ M, r = .nx δ M ∧ P δ M)) (h2 : ∀ δ M, P δ M → WP (k δ M) Q) : WP (seqK r k) Q := by
  obtain ⟨δ, M, e, p⟩ := wp_to h
  subst e
  exact h2 δ M p
@[simp] theorem wp_nxP {δ : DEnv} {M : Mem} {P : DEnv → Mem → Prop} : WP (ResS.nx δ M) (fun r => ∃ δ M, r = .nx δ M ∧ P δ M) = P δ M := by rw [wp_eq]; exact propext ⟨fun ⟨_, _, e, h⟩ => by cases e; exact h, fun h => ⟨_, _, rfl, h⟩⟩
theorem wp_next {r : ResS} {k : DEnv → Mem → ResS} {Q : ResS → Prop} {δ : DEnv} {M : Mem} (h : r = .nx δ M) (h2 : WP (k δ M) Q) : WP (seqK r k) Q := by
  subst h
  exact h2
theorem wp_ret {r : ResS} {k : DEnv → Mem → ResS} {Q : ResS → Prop} {d : D} {M : Mem} (h : r = .rt d M) (h2 : WP (ResS.rt d M) Q) : WP (seqK r k) Q := by
  subst h
  exact h2
theorem wp_raise {r : ResS} {k : DEnv → Mem → ResS} {Q : ResS → Prop} {δ : DEnv} {M : Mem} {x : Exn} (h : r = .exc x δ M) (h2 : WP (ResS.exc x δ M) Q) : WP (seqK r k) Q := by
  subst h
  exact h2
theorem s_asg {f : EF D} {i : Nat} {d : D} {δ : DEnv} {M M1 : Mem} (h : f δ M = .ok d M1) : sAsg f (gNm i) δ M = .nx (δ.set i (some d)) M1 := by
  rw [e_sAsg, h]
  rfl
theorem s_drop {f : EF D} {d : D} {δ : DEnv} {M M1 : Mem} (h : f δ M = .ok d M1) : sDrop f δ M = .nx δ M1 := by
  rw [e_sDrop, h]
  rfl
theorem s_ret {f : EF D} {d : D} {δ : DEnv} {M M1 : Mem} (h : f δ M = .ok d M1) : sRet f δ M = .rt d M1 := by
  rw [e_sRet, h]
  rfl
theorem s_if {c : EF Bool} {a b : DS} {t : Bool} {δ : DEnv} {M M1 : Mem} (h : c δ M = .ok t M1) : sIf c a b δ M = if t = true then a δ M1 else b δ M1 := by
  rw [e_sIf, h]
  rfl
/-- a tuple with another item at one place -/
theorem e_tupSet {f i i2 p : EF D} {l : List D} {k : Nat} {q : D} {δ : DEnv} {M : Mem} (h1 : f δ M = .ok (.tup l) M) (h2 : i δ M = .ok (.int k) M) (h4 : i2 δ M = .ok (.int (k + 1 : Nat)) M) (h3 : p δ M = .ok q M) (hk : k < l.length) (hl : l.length ≤ sizeLine) :
    dBin oAdd (dBin oAdd (dSl f dNoP (dPart i)) (dTup (aCons p aNil))) (dSl f (dPart i2) dNoP) δ M = .ok (.tup (l.set k q)) M := by
  have z1 : 1 ≤ sizeLine := by decide
  have a1 : oAdd (.tup (l.take k)) (.tup [q]) M = some (.tup (l.take k ++ [q]), M) := by
    rw [oAdd_tup, if_pos]
    rw [List.length_take, List.length_singleton]
    omega
  have a2 : oAdd (.tup (l.take k ++ [q])) (.tup (l.drop (k + 1))) M = some (.tup (l.set k q), M) := by
    rw [oAdd_tup, if_pos]
    · rw [List.append_assoc, List.singleton_append, set_cut l k q hk]
    · rw [List.length_append, List.length_take, List.length_singleton, List.length_drop]
      omega
  rw [e_dBin, e_dBin, e_dSl, h1]
  simp only [bind_ok, e_dNoP, e_dPart, h2, partK_int, oSl_tup, cutD_to, ofV_some, e_dTup, e_aCons, h3, e_aNil, List.length_cons, List.length_nil]
  rw [if_pos (show 0 + 1 ≤ sizeLine from z1)]
  simp only [bind_ok, a1, ofV_some, e_dSl, h1, e_dPart, h4, partK_int, e_dNoP, oSl_tup, cutD_from, a2]
end Pd
namespace Pd
open PySem
/-! ### drawing in a comprehension; range from one number to another -/
theorem dr_nextP {s : Nat} {M : Mem} {P : D → Prop} {r : Res D} (h : Dr s M P r) (hs : s < M.length) : ∃ d a b, P d ∧ r = .ok d (M.set s (srcM a b)) ∧ okS (M.set s (srcM a b)) s ∧ 0 ≤ a ∧ 0 ≤ b ∧ b < 2 ^ 40 := by
  obtain ⟨d, a, b, hp, ha, hb, hb2, e⟩ := h
  exact ⟨d, a, b, hp, e, okS.set hs ha hb hb2, ha, hb, hb2⟩
theorem compL_draw {s n : Nat} {g : GF D} {te : EF D} {δ : DEnv} {P : D → Prop} : ∀ (l acc : List D) (M0 : Mem), n = M0.length → s < M0.length → okS M0 s → acc.length + l.length ≤ sizeLine → (∀ x ∈ acc, P x) →
    (∀ d ∈ l, ∀ (a b : Int) acc, 0 ≤ a → 0 ≤ b → b < 2 ^ 40 → ∃ δ', g d δ (M0.set s (srcM a b) ++ [.lst acc]) = some (δ', M0.set s (srcM a b) ++ [.lst acc]) ∧ Dr s (M0.set s (srcM a b) ++ [.lst acc]) P (te δ' (M0.set s (srcM a b) ++ [.lst acc]))) →
    ∃ acc' a b, compL n g tTrue te δ l (M0 ++ [.lst acc]) = some (M0.set s (srcM a b) ++ [.lst acc']) ∧ acc'.length = acc.length + l.length ∧ (∀ x ∈ acc', P x) ∧ 0 ≤ a ∧ 0 ≤ b ∧ b < 2 ^ 40
  | [], acc, M0, _, hs, ho, _, hp, _ => by
    obtain ⟨a, b, e, h1, h2, h3⟩ := ho
    refine ⟨acc, a, b, ?_, rfl, hp, h1, h2, h3⟩
    have : M0.set s (srcM a b) = M0 := by
      unfold lstOf at e
      split at e
      · rename_i l' e'
        cases e
        obtain ⟨h, e2⟩ := List.getElem?_eq_some_iff.mp e'
        have e2 : M0[s] = srcM a b := e2
        rw [← e2, List.set_getElem_self]
      · cases e
    rw [this]
    rfl
  | d :: l, acc, M0, hn, hs, ho, hl, hp, h => by
    obtain ⟨a0, b0, e0, g1, g2, g3⟩ := id ho
    have same : M0.set s (srcM a0 b0) = M0 := by
      unfold lstOf at e0
      split at e0
      · rename_i l' e'
        cases e0
        obtain ⟨h, e2⟩ := List.getElem?_eq_some_iff.mp e'
        have e2 : M0[s] = srcM a0 b0 := e2
        rw [← e2, List.set_getElem_self]
      · cases e0
    obtain ⟨δ', h1, h2⟩ := h d List.mem_cons_self a0 b0 acc g1 g2 g3
    rw [same] at h1 h2
    obtain ⟨x, a, b, hx, e, _, k1, k2, k3⟩ := dr_nextP h2 (by rw [List.length_append]; omega)
    rw [set_app hs] at e
    rw [List.length_cons] at hl
    have step : compStep n g tTrue te δ d (M0 ++ [.lst acc]) = some (M0.set s (srcM a b) ++ [.lst (acc ++ [x])]) := by
      unfold compStep
      rw [h1]
      dsimp only
      show (match tTrue δ' (M0 ++ [.lst acc]) with
        | .ok b M2 => _
        | _ => none) = _
      show (if true = true then _ else _) = _
      rw [if_pos rfl, e]
      dsimp only
      have hn' : n = (M0.set s (srcM a b)).length := by rw [List.length_set]; exact hn
      rw [hn', lstOf_mid]
      dsimp only
      rw [if_pos (by omega)]
      simp
    obtain ⟨acc', a', b', q1, q2, q3, q4, q5, q6⟩ := compL_draw (n := n) (P := P) l (acc ++ [x]) (M0.set s (srcM a b)) (by rw [List.length_set]; exact hn) (by rw [List.length_set]; exact hs) (okS.set hs k1 k2 k3) (by rw [List.length_append, List.length_singleton]; omega)
      (fun y hy => by
        rcases List.mem_append.mp hy with z | z
        · exact hp y z
        · rw [List.mem_singleton.mp z]; exact hx)
      (fun d' hd' a b acc ha hb hb2 => by rw [List.set_set]; exact h d' (List.mem_cons_of_mem _ hd') a b acc ha hb hb2)
    refine ⟨acc', a', b', ?_, by rw [q2, List.length_append, List.length_singleton, List.length_cons]; omega, q3, q4, q5, q6⟩
    unfold compL
    rw [step]
    show compL n g tTrue te δ l (M0.set s (srcM a b) ++ [.lst (acc ++ [x])]) = _
    rw [q1, List.set_set]
theorem dLc_draw {own : List Nat} {s : Nat} {src : EF Src} {g : GF D} {te : EF D} {δ : DEnv} {M M1 : Mem} {l : List D} (P : D → Prop) (hs : src δ M = .ok (.items l) M1) (ho : okS M1 s) (hl : l.length ≤ sizeLine)
    (h : ∀ d ∈ l, ∀ (a b : Int) acc, 0 ≤ a → 0 ≤ b → b < 2 ^ 40 → ∃ δ', g d (wipeD δ own) (M1.set s (srcM a b) ++ [.lst acc]) = some (δ', M1.set s (srcM a b) ++ [.lst acc]) ∧ Dr s (M1.set s (srcM a b) ++ [.lst acc]) P (te δ' (M1.set s (srcM a b) ++ [.lst acc]))) :
    ∃ acc a b, dLc own src g tTrue te δ M = .ok (.ref M1.length) (M1.set s (srcM a b) ++ [.lst acc]) ∧ acc.length = l.length ∧ (∀ x ∈ acc, P x) ∧ 0 ≤ a ∧ 0 ≤ b ∧ b < 2 ^ 40 := by
  obtain ⟨acc, a, b, e, q2, q3, q4, q5, q6⟩ := compL_draw (n := M1.length) (g := g) (te := te) (δ := wipeD δ own) (P := P) l [] M1 rfl ho.lt ho (by simpa using hl) (fun x hx => by cases hx) h
  refine ⟨acc, a, b, ?_, by simpa using q2, q3, q4, q5, q6⟩
  unfold dLc
  rw [hs]
  show (match compL M1.length g tTrue te (wipeD δ own) l (M1 ++ [.lst []]) with
    | some M' => Res.ok (D.ref M1.length) M'
    | none => .bad) = _
  rw [e]
theorem intsR_length (i : Int) (n : Nat) : (intsR i n).length = n := by
  unfold intsR
  rw [List.length_map, List.length_range]
theorem dRng2_ok {ga : EF (List D)} {δ : DEnv} {M M1 : Mem} {i j : Int} (h : ga δ M = .ok [.int i, .int j] M1) (h1 : -(2 ^ 62) ≤ i) (h2 : i < 2 ^ 62) (h3 : -(2 ^ 62) ≤ j) (h4 : j < 2 ^ 62) : dRng2 ga δ M = .ok (.items (intsR i (j - i).toNat)) M1 := by
  unfold dRng2
  rw [h, bind_ok]
  dsimp only
  rw [if_pos ⟨h1, h2, h3, h4⟩]
/-- over range(i, j) -/
theorem wp_rng2 {src : EF Src} {g : GF D} {body : DS} {k : DEnv → Mem → ResS} {Q : ResS → Prop} {δ : DEnv} {M : Mem} (i : Int) (n : Nat) (I : Nat → DEnv → Mem → Prop)
    (hs : ∃ M1, src δ M = .ok (.items (intsR i n)) M1 ∧ I 0 δ M1)
    (st : ∀ t, t < n → ∀ δ M, I t δ M → WP (onG (g (.int (i + t)) δ M) body) (StepQ (I (t + 1)) k Q)) (hp : ∀ δ M, I n δ M → WP (k δ M) Q) :
    WP (seqK (sFor src g body δ M) k) Q :=
  wp_for _ I hs (fun t d hd δ M hI => by
    rw [intsR_get] at hd
    split at hd
    · rename_i ht
      cases hd
      exact st t ht δ M hI
    · cases hd) fun δ M hI => hp δ M (by rwa [intsR_length] at hI)
/-! ### tuples times an int -/
theorem oMul_tup (l : List D) (j : Nat) (M : Mem) (h : l.length * j ≤ 1000000) (hj : (j : Int) < 2 ^ 63) : oMul (.tup l) (.int j) M = some (.tup (List.replicate j l).flatten, M) := by
  unfold oMul
  dsimp only
  rw [if_pos ⟨by omega, hj, by rw [Int.toNat_natCast]; exact h⟩, Int.toNat_natCast]
theorem oRv_tup (l : List D) (M : Mem) : oRv (.tup l) (.int (-1)) M = some (.tup l.reverse, M) := nr rfl
theorem oRv_ref (n : Nat) (M : Mem) : oRv (.ref n) (.int (-1)) M = (seqOf M n).map fun l => (.ref M.length, M ++ [.lst l.reverse]) := nr rfl
@[simp] theorem oNeg_int (i : Int) (M : Mem) : oNeg (.int i) M = some (.int (-i), M) := nr rfl
/-! ### comprehensions whose items leave lists behind -/
theorem compL_gar {n : Nat} {g : GF D} {tt : EF Bool} {te : EF D} {δ : DEnv} {M0 : Mem} (hn : n = M0.length) (p : D → Bool) (f : D → D) : ∀ (l acc : List D) (G : Mem), acc.length + l.length ≤ sizeLine →
    (∀ d ∈ l, ∀ acc G, ∃ δ' G1, g d δ (onL M0 acc G) = some (δ', onL M0 acc G) ∧ tt δ' (onL M0 acc G) = .ok (p d) (onL M0 acc G1) ∧ (p d = true → ∃ G2, te δ' (onL M0 acc G1) = .ok (f d) (onL M0 acc G2))) →
    ∃ G', compL n g tt te δ l (onL M0 acc G) = some (onL M0 (acc ++ (l.filter p).map f) G')
  | [], acc, G, _, _ => ⟨G, by simp [compL]⟩
  | d :: l, acc, G, hl, h => by
    rw [List.length_cons] at hl
    obtain ⟨δ', G1, h1, h2, h3⟩ := h d List.mem_cons_self acc G
    have step : ∃ G3, compStep n g tt te δ d (onL M0 acc G) = some (onL M0 (acc ++ (if p d = true then [f d] else [])) G3) := by
      unfold compStep
      rw [h1]
      dsimp only
      rw [h2]
      dsimp only
      by_cases hp : p d = true
      · obtain ⟨G2, h3⟩ := h3 hp
        rw [if_pos hp, if_pos hp, h3]
        dsimp only
        rw [hn, lstOf_onL]
        dsimp only
        rw [if_pos (by omega)]
        exact ⟨G2, by unfold onL; rw [setM_new0]; rfl⟩
      · rw [if_neg hp, if_neg hp, List.append_nil]
        exact ⟨G1, rfl⟩
    obtain ⟨G3, step⟩ := step
    obtain ⟨G', e⟩ := compL_gar hn p f l (acc ++ (if p d = true then [f d] else [])) G3 (by rw [List.length_append]; split <;> simp <;> omega) fun d' hd' => h d' (List.mem_cons_of_mem _ hd')
    refine ⟨G', ?_⟩
    unfold compL
    rw [step]
    show compL n g tt te δ l (onL M0 (acc ++ (if p d = true then [f d] else [])) G3) = _
    rw [e]
    by_cases hp : p d = true
    · simp [hp]
    · simp [hp]
theorem dLc_gar {own : List Nat} {src : EF Src} {g : GF D} {tt : EF Bool} {te : EF D} {δ : DEnv} {M M1 : Mem} {l : List D} (p : D → Bool) (f : D → D) (hs : src δ M = .ok (.items l) M1) (hl : l.length ≤ sizeLine)
    (h : ∀ d ∈ l, ∀ acc G, ∃ δ' G1, g d (wipeD δ own) (onL M1 acc G) = some (δ', onL M1 acc G) ∧ tt δ' (onL M1 acc G) = .ok (p d) (onL M1 acc G1) ∧ (p d = true → ∃ G2, te δ' (onL M1 acc G1) = .ok (f d) (onL M1 acc G2))) :
    ∃ G, dLc own src g tt te δ M = .ok (.ref M1.length) (onL M1 ((l.filter p).map f) G) := by
  obtain ⟨G, e⟩ := compL_gar (n := M1.length) (M0 := M1) rfl p f l [] [] (by simpa using hl) h
  refine ⟨G, ?_⟩
  unfold dLc
  rw [hs]
  show (match compL M1.length g tt te (wipeD δ own) l (M1 ++ [.lst []]) with
    | some M' => Res.ok (D.ref M1.length) M'
    | none => .bad) = _
  rw [onL_new, e]
  rfl
theorem dLc_garM {own : List Nat} {src : EF Src} {g : GF D} {te : EF D} {δ : DEnv} {M M1 : Mem} {l : List D} (f : D → D) (hs : src δ M = .ok (.items l) M1) (hl : l.length ≤ sizeLine)
    (h : ∀ d ∈ l, ∀ acc G, ∃ δ' G2, g d (wipeD δ own) (onL M1 acc G) = some (δ', onL M1 acc G) ∧ te δ' (onL M1 acc G) = .ok (f d) (onL M1 acc G2)) :
    ∃ G, dLc own src g tTrue te δ M = .ok (.ref M1.length) (onL M1 (l.map f) G) := by
  obtain ⟨G, e⟩ := dLc_gar (own := own) (tt := tTrue) (fun _ => true) f hs hl fun d hd acc G => let ⟨δ', G2, a, b⟩ := h d hd acc G; ⟨δ', G, a, rfl, fun _ => ⟨G2, b⟩⟩
  exact ⟨G, by rw [e, show l.filter (fun _ => true) = l from List.filter_eq_self.mpr fun _ _ => rfl]⟩
/-- a tuple with another item at one place, which is drawn -/
theorem e_tupSet2 {f i i2 p : EF D} {l : List D} {k : Nat} {q : D} {δ : DEnv} {M M2 : Mem} (h1 : f δ M = .ok (.tup l) M) (h2 : i δ M = .ok (.int k) M) (h3 : p δ M = .ok q M2) (h5 : f δ M2 = .ok (.tup l) M2) (h4 : i2 δ M2 = .ok (.int (k + 1 : Nat)) M2) (hk : k < l.length) (hl : l.length ≤ sizeLine) :
    dBin oAdd (dBin oAdd (dSl f dNoP (dPart i)) (dTup (aCons p aNil))) (dSl f (dPart i2) dNoP) δ M = .ok (.tup (l.set k q)) M2 := by
  have z1 : 1 ≤ sizeLine := by decide
  have a1 : oAdd (.tup (l.take k)) (.tup [q]) M2 = some (.tup (l.take k ++ [q]), M2) := by
    rw [oAdd_tup, if_pos]
    rw [List.length_take, List.length_singleton]
    omega
  have a2 : oAdd (.tup (l.take k ++ [q])) (.tup (l.drop (k + 1))) M2 = some (.tup (l.set k q), M2) := by
    rw [oAdd_tup, if_pos]
    · rw [List.append_assoc, List.singleton_append, set_cut l k q hk]
    · rw [List.length_append, List.length_take, List.length_singleton, List.length_drop]
      omega
  rw [e_dBin, e_dBin, e_dSl, h1]
  simp only [bind_ok, e_dNoP, e_dPart, h2, partK_int, oSl_tup, cutD_to, ofV_some, e_dTup, e_aCons, h3, e_aNil, List.length_cons, List.length_nil]
  rw [if_pos (show 0 + 1 ≤ sizeLine from z1)]
  simp only [bind_ok, a1, ofV_some, e_dSl, h5, e_dPart, h4, partK_int, e_dNoP, oSl_tup, cutD_from, a2]
end Pd
namespace Pd
open PySem
/-! ### comprehensions over enumerate of a list of the store; the last item -/
theorem compF_liveE {n : Nat} {g : GF D} {tt : EF Bool} {te : EF D} {δ : DEnv} {M0 : Mem} {l : List D} (hs : seqOf M0 n = some l) (p : D → Bool) (f : D → D)
    (h : ∀ (i : Nat) (d : D), l[i]? = some d → ∀ acc, ∃ δ', g (.tup [.int i, d]) δ (M0 ++ [.lst acc]) = some (δ', M0 ++ [.lst acc]) ∧ tt δ' (M0 ++ [.lst acc]) = .ok (p (.tup [.int i, d])) (M0 ++ [.lst acc]) ∧ (p (.tup [.int i, d]) = true → te δ' (M0 ++ [.lst acc]) = .ok (f (.tup [.int i, d])) (M0 ++ [.lst acc]))) :
    ∀ (k i : Nat) (acc : List D), l.length - i < k → acc.length + (l.length - i) ≤ sizeLine → compF M0.length g tt te δ (.liveE n) k i (M0 ++ [.lst acc]) = some (M0 ++ [.lst (acc ++ (((enumD 0 l).drop i).filter p).map f)])
  | 0, _, _, hk, _ => by omega
  | k + 1, i, acc, hk, hl => by
    unfold compF
    have e0 : Src.item (M0 ++ [.lst acc]) i (.liveE n) = some (l[i]?.map fun d => .tup [.int (i : Nat), d]) := by
      show (seqOf (M0 ++ [.lst acc]) n).map (fun l => l[i]?.map fun d => D.tup [.int (i : Nat), d]) = _
      rw [seqOf_app _ hs]
      rfl
    have el : (enumD 0 l).length = l.length := by
      have : ∀ (l : List D) k, (enumD k l).length = l.length := fun l => by
        induction l with
        | nil => intro k; rfl
        | cons d l ih => intro k; show (enumD (k + 1) l).length + 1 = _; rw [ih]; rfl
      exact this l 0
    rw [e0]
    cases c : l[i]? with
    | none =>
      rw [List.drop_eq_nil_of_le (by rw [el]; exact List.getElem?_eq_none_iff.mp c)]
      simp
    | some d =>
      have hi := (List.getElem?_eq_some_iff.mp c).1
      have ge : (enumD 0 l)[i]? = some (.tup [.int i, d]) := by rw [enumD_get, c, Nat.zero_add]; rfl
      obtain ⟨hi2, ed⟩ := List.getElem?_eq_some_iff.mp ge
      obtain ⟨δ', h1, h2, h3⟩ := h i d c acc
      generalize hz : D.tup [.int (i : Nat), d] = z at *
      have step : compStep M0.length g tt te δ z (M0 ++ [.lst acc]) = some (M0 ++ [.lst (acc ++ (if p z = true then [f z] else []))]) := by
        unfold compStep
        rw [h1]
        dsimp only
        rw [h2]
        dsimp only
        by_cases hp : p z = true
        · rw [if_pos hp, if_pos hp, h3 hp]
          dsimp only
          rw [lstOf_mid]
          dsimp only
          rw [if_pos (by omega)]
          simp
        · rw [if_neg hp, if_neg hp, List.append_nil]
      dsimp only [Option.map_some]
      rw [hz, step, Option.bind_some, compF_liveE hs p f (by rw [← hz] at *; exact h) k (i + 1) _ (by omega) (by rw [List.length_append]; split <;> simp <;> omega), List.drop_eq_getElem_cons hi2, ed]
      by_cases hp : p z = true
      · simp [hp]
      · simp [hp]
theorem dLc_liveE {own : List Nat} {src : EF Src} {g : GF D} {tt : EF Bool} {te : EF D} {δ : DEnv} {M M1 : Mem} {n : Nat} {l : List D} (p : D → Bool) (f : D → D) (hs : src δ M = .ok (.liveE n) M1) (hq : seqOf M1 n = some l) (hl : l.length ≤ sizeLine)
    (h : ∀ (i : Nat) (d : D), l[i]? = some d → ∀ acc, ∃ δ', g (.tup [.int i, d]) (wipeD δ own) (M1 ++ [.lst acc]) = some (δ', M1 ++ [.lst acc]) ∧ tt δ' (M1 ++ [.lst acc]) = .ok (p (.tup [.int i, d])) (M1 ++ [.lst acc]) ∧ (p (.tup [.int i, d]) = true → te δ' (M1 ++ [.lst acc]) = .ok (f (.tup [.int i, d])) (M1 ++ [.lst acc]))) :
    dLc own src g tt te δ M = .ok (.ref M1.length) (M1 ++ [.lst (((enumD 0 l).filter p).map f)]) := by
  unfold dLc
  rw [hs, bind_ok]
  have sz : Src.size (M1 ++ [MO.lst []]) (.liveE n) = l.length := by
    show ((seqOf (M1 ++ [MO.lst []]) n).getD []).length = _
    rw [seqOf_app _ hq]
    rfl
  have e : compS M1.length g tt te (wipeD δ own) (.liveE n) (M1 ++ [MO.lst []]) = some (M1 ++ [.lst (((enumD 0 l).filter p).map f)]) := by
    show compF M1.length g tt te (wipeD δ own) (.liveE n) (Src.size (M1 ++ [MO.lst []]) (.liveE n) + 1) 0 (M1 ++ [MO.lst []]) = _
    rw [sz, compF_liveE hq p f h (l.length + 1) 0 [] (by omega) (by simpa using hl)]
    simp
  rw [e]
theorem dEnum_ref {f : EF D} {δ : DEnv} {M M1 : Mem} {n : Nat} {l : List D} (h : f δ M = .ok (.ref n) M1) (hl : seqOf M1 n = some l) : dEnumL (aCons f aNil) δ M = .ok (.liveE n) M1 := by
  unfold dEnumL
  simp [h, hl]
theorem atI_last {l : List D} (h : l ≠ []) : L2.atI l (-1) = some (l.getLast h) := by
  have hl : 0 < l.length := List.length_pos_iff.mpr h
  unfold L2.atI L2.ixN
  rw [if_neg (by omega), if_pos (by omega)]
  show l[(-1 + (l.length : Int)).toNat]? = _
  rw [show (-1 + (l.length : Int)).toNat = l.length - 1 by omega, List.getLast_eq_getElem, List.getElem?_eq_getElem (by omega)]
end Pd
namespace Pd
open PySem PySem.Spec PyProof.Rows
/-! ### values of whatever kind, in a store -/
/-- a value, nested at most n deep, that names no list of R -/
def okV (M : Mem) (R : List Nat) : Nat → D → Prop
  | 0, d => match d with
    | .non => True
    | .bl _ => True
    | .int _ => True
    | .str x => PyData.strOk x = true
    | _ => False
  | n + 1, d => match d with
    | .non => True
    | .bl _ => True
    | .int _ => True
    | .str x => PyData.strOk x = true
    | .tup l => l.length ≤ 20 * (n + 1) ∧ ∀ d ∈ l, okV M R n d
    | .ref k => k ∉ R ∧ ∃ l, lstOf M k = some l ∧ ∀ d ∈ l, okV M R n d
    | _ => False
def WM (M : Mem) : Prop := ∀ m ∈ M, belowM M.length m = true
/-- the store has gone on: the source at s is drawn from, and there is more -/
def Ext (s : Nat) (M M' : Mem) : Prop := ∃ (a b : Int) (G : Mem), 0 ≤ a ∧ 0 ≤ b ∧ b < 2 ^ 40 ∧ M' = M.set s (srcM a b) ++ G
theorem seq_of_lst {M : Mem} {n : Nat} {l : List D} (h : lstOf M n = some l) : seqOf M n = some l := by
  unfold lstOf at h
  split at h
  · rename_i l' e
    cases h
    unfold seqOf
    rw [e]
  · cases h
theorem set_same {M : Mem} {s : Nat} {a b : Int} (e : lstOf M s = some [.int a, .int b]) : M.set s (srcM a b) = M := by
  unfold lstOf at e
  split at e
  · rename_i l' e'
    cases e
    obtain ⟨h, e2⟩ := List.getElem?_eq_some_iff.mp e'
    have e2 : M[s] = srcM a b := e2
    rw [← e2, List.set_getElem_self]
  · cases e
theorem Ext.refl {s : Nat} {M : Mem} (h : okS M s) : Ext s M M := by
  obtain ⟨a, b, e, h1, h2, h3⟩ := h
  exact ⟨a, b, [], h1, h2, h3, by rw [set_same e, List.append_nil]⟩
theorem Ext.okS {s : Nat} {M M' : Mem} (h : Ext s M M') (hs : s < M.length) : okS M' s := by
  obtain ⟨a, b, G, h1, h2, h3, rfl⟩ := h
  exact (Pd.okS.set hs h1 h2 h3).app
theorem Ext.len {s : Nat} {M M' : Mem} (h : Ext s M M') : M.length ≤ M'.length := by
  obtain ⟨a, b, G, h1, h2, h3, rfl⟩ := h
  rw [List.length_append, List.length_set]; omega
theorem Ext.trans {s : Nat} {M M' M'' : Mem} (h : Ext s M M') (h' : Ext s M' M'') (hs : s < M.length) : Ext s M M'' := by
  obtain ⟨a, b, G, h1, h2, h3, rfl⟩ := h
  obtain ⟨a', b', G', g1, g2, g3, rfl⟩ := h'
  exact ⟨a', b', G ++ G', g1, g2, g3, by rw [set_app (by rw [List.length_set]; exact hs), List.set_set, List.append_assoc]⟩
theorem Ext.app {s : Nat} {M M' : Mem} (h : Ext s M M') (G : Mem) : Ext s M (M' ++ G) := by
  obtain ⟨a, b, G', h1, h2, h3, rfl⟩ := h
  exact ⟨a, b, G' ++ G, h1, h2, h3, List.append_assoc ..⟩
theorem Ext.of_set {s : Nat} {M : Mem} {a b : Int} (h1 : 0 ≤ a) (h2 : 0 ≤ b) (h3 : b < 2 ^ 40) : Ext s M (M.set s (srcM a b)) := ⟨a, b, [], h1, h2, h3, (List.append_nil _).symm⟩
theorem lstOf_ext {s k : Nat} {M M' : Mem} {l : List D} (h : Ext s M M') (hk : k ≠ s) (e : lstOf M k = some l) : lstOf M' k = some l := by
  obtain ⟨a, b, G, h1, h2, h3, rfl⟩ := h
  refine lstOf_app G ?_
  unfold lstOf at e ⊢
  rw [List.getElem?_set_ne (Ne.symm hk)]
  exact e
theorem seqOf_ext {s k : Nat} {M M' : Mem} {l : List D} (h : Ext s M M') (hk : k ≠ s) (e : seqOf M k = some l) : seqOf M' k = some l := by
  obtain ⟨a, b, G, h1, h2, h3, rfl⟩ := h
  refine seqOf_app G ?_
  rw [seqOf_set_ne hk]
  exact e
/-- what the store must keep for values to stay -/
theorem okV.keep {M M' : Mem} {R : List Nat} (hk : ∀ k l, k ∉ R → lstOf M k = some l → lstOf M' k = some l) : ∀ (n : Nat) (d : D), okV M R n d → okV M' R n d
  | 0, d, h => h
  | n + 1, .non, h => h
  | n + 1, .bl _, h => h
  | n + 1, .int _, h => h
  | n + 1, .str _, h => h
  | n + 1, .tup l, h => ⟨h.1, fun d hd => okV.keep hk n d (h.2 d hd)⟩
  | n + 1, .ref k, h => by
    obtain ⟨h1, l, h2, h3⟩ := h
    exact ⟨h1, l, hk k l h1 h2, fun d hd => okV.keep hk n d (h3 d hd)⟩
theorem okV.ext {s : Nat} {M M' : Mem} {R : List Nat} {n : Nat} {d : D} (h : okV M R n d) (e : Ext s M M') (hs : s ∈ R) : okV M' R n d :=
  okV.keep (fun k l hk hl => lstOf_ext e (fun z => hk (z ▸ hs)) hl) n d h
theorem okV.succ {M : Mem} {R : List Nat} : ∀ (n : Nat) (d : D), okV M R n d → okV M R (n + 1) d
  | 0, .non, h => h
  | 0, .bl _, h => h
  | 0, .int _, h => h
  | 0, .str _, h => h
  | n + 1, .non, h => h
  | n + 1, .bl _, h => h
  | n + 1, .int _, h => h
  | n + 1, .str _, h => h
  | n + 1, .tup l, h => ⟨Nat.le_trans h.1 (by omega), fun d hd => okV.succ n d (h.2 d hd)⟩
  | n + 1, .ref k, h => by
    obtain ⟨h1, l, h2, h3⟩ := h
    exact ⟨h1, l, h2, fun d hd => okV.succ n d (h3 d hd)⟩
theorem okV.mono {M : Mem} {R : List Nat} {n m : Nat} {d : D} (h : okV M R n d) (hm : n ≤ m) : okV M R m d := by
  induction m with
  | zero => rw [show n = 0 by omega] at h; exact h
  | succ m ih =>
    by_cases z : n = m + 1
    · rw [← z]; exact h
    · exact okV.succ m d (ih (by omega))
/-- fewer lists that are kept apart -/
theorem okV.less {M : Mem} {R R' : List Nat} (hR : ∀ x ∈ R', x ∈ R) : ∀ (n : Nat) (d : D), okV M R n d → okV M R' n d
  | 0, d, h => h
  | n + 1, .non, h => h
  | n + 1, .bl _, h => h
  | n + 1, .int _, h => h
  | n + 1, .str _, h => h
  | n + 1, .tup l, h => ⟨h.1, fun d hd => okV.less hR n d (h.2 d hd)⟩
  | n + 1, .ref k, h => by
    obtain ⟨h1, l, h2, h3⟩ := h
    exact ⟨fun z => h1 (hR k z), l, h2, fun d hd => okV.less hR n d (h3 d hd)⟩
theorem belowL_mem {n : Nat} : ∀ {l : List D}, belowL n l = true → ∀ d ∈ l, belowD n d = true
  | x :: l, h, d, hd => by
    unfold belowL at h
    obtain ⟨h1, h2⟩ := Bool.and_eq_true_iff.mp h
    rcases List.mem_cons.mp hd with e | hd
    · rw [e]; exact h1
    · exact belowL_mem h2 d hd
theorem belowL_all {n : Nat} : ∀ {l : List D}, (∀ d ∈ l, belowD n d = true) → belowL n l = true
  | [], _ => rfl
  | x :: l, h => by
    unfold belowL
    rw [h x List.mem_cons_self, belowL_all fun d hd => h d (List.mem_cons_of_mem _ hd)]
    rfl
theorem belowM_mono {n m : Nat} (h : n ≤ m) : ∀ o, belowM n o = true → belowM m o = true
  | .lst l, e => belowL_mono h l e
  | .fz l, e => belowL_mono h l e
  | .ins _ fs, e => by
    show belowF m fs = true
    replace e : belowF n fs = true := e
    induction fs with
    | nil => rfl
    | cons p fs ih =>
      unfold belowF at e ⊢
      obtain ⟨h1, h2⟩ := Bool.and_eq_true_iff.mp e
      rw [below_mono h _ h1, ih h2]
      rfl
  | .any, _ => rfl
theorem WM.set {M : Mem} {s : Nat} {a b : Int} (h : WM M) : WM (M.set s (srcM a b)) := fun m hm => by
  rw [List.length_set]
  rcases List.mem_or_eq_of_mem_set hm with z | z
  · exact h m z
  · rw [z]; rfl
theorem WM.app {M : Mem} (h : WM M) {l : List D} (hl : ∀ d ∈ l, belowD (M.length + 1) d = true) : WM (M ++ [.lst l]) := fun m hm => by
  rw [List.length_append, List.length_singleton]
  rcases List.mem_append.mp hm with z | z
  · exact belowM_mono (by omega) m (h m z)
  · rw [List.mem_singleton.mp z]
    exact belowL_all hl
theorem WM.lst {M : Mem} (h : WM M) {k : Nat} {l : List D} (e : lstOf M k = some l) : ∀ d ∈ l, belowD M.length d = true := by
  unfold lstOf at e
  split at e
  · rename_i l' e'
    cases e
    exact belowL_mem (h _ (List.mem_of_getElem? e'))
  · cases e
theorem WM.put {M : Mem} (h : WM M) {k : Nat} {l : List D} (hl : ∀ d ∈ l, belowD M.length d = true) : WM (M.set k (.lst l)) := fun m hm => by
  rw [List.length_set]
  rcases List.mem_or_eq_of_mem_set hm with z | z
  · exact h m z
  · rw [z]; exact belowL_all hl
theorem okV.below {M : Mem} {R : List Nat} (w : WM M) : ∀ (n : Nat) (d : D), okV M R n d → belowD M.length d = true
  | 0, .non, h => rfl
  | 0, .bl _, h => rfl
  | 0, .int _, h => rfl
  | 0, .str _, h => rfl
  | n + 1, .non, h => rfl
  | n + 1, .bl _, h => rfl
  | n + 1, .int _, h => rfl
  | n + 1, .str _, h => rfl
  | n + 1, .tup l, h => belowL_all fun d hd => okV.below w n d (h.2 d hd)
  | n + 1, .ref k, h => by
    obtain ⟨h1, l, h2, h3⟩ := h
    exact decide_eq_true (lstOf_lt h2)
theorem okV.take {M0 G : Mem} {R : List Nat} (w : WM M0) : ∀ (n : Nat) (d : D), belowD M0.length d = true → okV (M0 ++ G) R n d → okV M0 R n d
  | 0, d, _, h => h
  | n + 1, .non, _, h => h
  | n + 1, .bl _, _, h => h
  | n + 1, .int _, _, h => h
  | n + 1, .str _, _, h => h
  | n + 1, .tup l, hb, h => ⟨h.1, fun d hd => okV.take w n d (belowL_mem hb d hd) (h.2 d hd)⟩
  | n + 1, .ref k, hb, h => by
    obtain ⟨h1, l, h2, h3⟩ := h
    have hk : k < M0.length := of_decide_eq_true hb
    have e : lstOf M0 k = some l := by
      unfold lstOf at h2 ⊢
      rw [List.getElem?_append_left hk] at h2
      exact h2
    exact ⟨h1, l, e, fun d hd => okV.take w n d (w.lst e d hd) (h3 d hd)⟩
/-- a drawn value: the store has gone on -/
def DrX (s : Nat) (M : Mem) (R : List Nat) (n : Nat) (r : Res D) : Prop := ∃ d M', r = .ok d M' ∧ Ext s M M' ∧ WM M' ∧ okV M' R n d
theorem gcX {s : Nat} {M M' : Mem} {R : List Nat} {n : Nat} {d : D} (hs : s < M.length) (sR : s ∈ R) (hR : ∀ r ∈ R, r < M.length) (w : WM M) (e : Ext s M M') (w' : WM M') (h : okV M' R n d) :
    DrX s M R n (gcR M (.ok d M')) := by
  obtain ⟨a, b, G, h1, h2, h3, rfl⟩ := e
  have tk : (M.set s (srcM a b) ++ G).take M.length = M.set s (srcM a b) := by
    rw [List.take_append_of_le_length (by rw [List.length_set]; omega), List.take_of_length_le (by rw [List.length_set]; omega)]
  have base : DrX s M R n (.ok d (M.set s (srcM a b) ++ G)) := ⟨d, _, rfl, ⟨a, b, G, h1, h2, h3, rfl⟩, w', h⟩
  have wS : WM (M.set s (srcM a b)) := w.set
  show DrX s M R n (gcV M d (M.set s (srcM a b) ++ G))
  unfold gcV
  split
  · split
    · rename_i hb
      rw [tk]
      refine ⟨d, _, rfl, Ext.of_set h1 h2 h3, wS, okV.take wS n d (by rw [List.length_set]; exact hb) h⟩
    · split
      · rename_i k hb
        split
        · rename_i l hl
          split
          · rename_i hk
            rw [tk]
            have wl := belowL_mem hk.2
            have e0 : lstOf (M.set s (srcM a b) ++ G) k = some l := by
              unfold lstOf
              rw [hl]
            match n, h with
            | n + 1, ⟨g1, l0, g2, g3⟩ =>
              rw [e0] at g2
              cases g2
              refine ⟨_, _, rfl, (Ext.of_set h1 h2 h3).app _, wS.app fun d hd => below_mono (by rw [List.length_set]; omega) d (wl d hd), fun z => by have := hR _ z; omega, l, lstOf_end (by rw [List.length_set]), fun d hd => ?_⟩
              have := okV.take wS n d (by rw [List.length_set]; exact wl d hd) (g3 d hd)
              exact okV.keep (fun k l hk hl => lstOf_app _ hl) n d this
          · exact base
        · exact base
      · exact base
  · exact base
/-! ### such values as data: beside an empty list -/
theorem pyD_okV {M : Mem} {R : List Nat} : ∀ (n k : Nat) (d : D), okV M R n d → n < k → ∃ p, pyD M k d = some p ∧ p.canLay0 = true ∧ p.depth ≤ n := by
  have lst : ∀ (n k : Nat), (∀ d, okV M R n d → ∃ p, pyD M k d = some p ∧ p.canLay0 = true ∧ p.depth ≤ n) → ∀ l : List D, (∀ d ∈ l, okV M R n d) → ∃ ps, pyL (pyD M k) l = some ps ∧ PyData.canLayAll0 ps = true ∧ PyData.depthAll ps ≤ n := by
    intro n k ih l
    induction l with
    | nil => intro _; exact ⟨[], rfl, rfl, by unfold PyData.depthAll; omega⟩
    | cons d l ihl =>
      intro h
      obtain ⟨p, p1, p2, p3⟩ := ih d (h d List.mem_cons_self)
      obtain ⟨ps, q1, q2, q3⟩ := ihl fun d hd => h d (List.mem_cons_of_mem _ hd)
      refine ⟨p :: ps, ?_, ?_, ?_⟩
      · unfold pyL; rw [p1, q1]
      · unfold PyData.canLayAll0; rw [p2, q2]; rfl
      · unfold PyData.depthAll; omega
  intro n
  induction n with
  | zero =>
    intro k d h hk
    obtain ⟨k, rfl⟩ : ∃ j, k = j + 1 := ⟨k - 1, by omega⟩
    cases d with
    | non => exact ⟨.none, rfl, rfl, by unfold PyData.depth; omega⟩
    | bl b => exact ⟨.bool b, rfl, rfl, by unfold PyData.depth; omega⟩
    | int i => exact ⟨.int i, rfl, rfl, by unfold PyData.depth; omega⟩
    | str x => exact ⟨.str x, rfl, by unfold PyData.canLay0; exact h, by unfold PyData.depth; omega⟩
    | _ => exact h.elim
  | succ n ih =>
    intro k d h hk
    obtain ⟨k, rfl⟩ : ∃ j, k = j + 1 := ⟨k - 1, by omega⟩
    cases d with
    | non => exact ⟨.none, rfl, rfl, by unfold PyData.depth; omega⟩
    | bl b => exact ⟨.bool b, rfl, rfl, by unfold PyData.depth; omega⟩
    | int i => exact ⟨.int i, rfl, rfl, by unfold PyData.depth; omega⟩
    | str x => exact ⟨.str x, rfl, by unfold PyData.canLay0; exact h, by unfold PyData.depth; omega⟩
    | tup l =>
      obtain ⟨ps, q1, q2, q3⟩ := lst n k (fun d hd => ih k d hd (by omega)) l h.2
      refine ⟨.tuple ps, ?_, by unfold PyData.canLay0; exact q2, by unfold PyData.depth; omega⟩
      unfold pyD
      rw [q1]
      rfl
    | ref j =>
      obtain ⟨h1, l, h2, h3⟩ := h
      obtain ⟨ps, q1, q2, q3⟩ := lst n k (fun d hd => ih k d hd (by omega)) l h3
      refine ⟨.list ps, ?_, by unfold PyData.canLay0; exact q2, by unfold PyData.depth; omega⟩
      unfold pyD
      rw [seq_of_lst h2]
      dsimp only
      rw [q1]
      rfl
    | _ => exact h.elim
end Pd
namespace Pd
open PySem PySem.Spec PyProof.Rows
theorem pyL_okV {M : Mem} {R : List Nat} {n k : Nat} (hk : n < k) : ∀ l : List D, (∀ d ∈ l, okV M R n d) → ∃ ps, pyL (pyD M k) l = some ps ∧ PyData.canLayAll0 ps = true ∧ PyData.depthAll ps ≤ n ∧ (ps = [] ↔ l = [])
  | [], _ => ⟨[], rfl, rfl, by unfold PyData.depthAll; omega, by simp⟩
  | d :: l, h => by
    obtain ⟨p, p1, p2, p3⟩ := pyD_okV n k d (h d List.mem_cons_self) hk
    obtain ⟨ps, q1, q2, q3, _⟩ := pyL_okV hk l fun d hd => h d (List.mem_cons_of_mem _ hd)
    refine ⟨p :: ps, ?_, ?_, ?_, by simp⟩
    · unfold pyL; rw [p1, q1]
    · unfold PyData.canLayAll0; rw [p2, q2]; rfl
    · unfold PyData.depthAll; omega
/-- a list of such values beside an empty one -/
theorem oEq_nil {M : Mem} {R : List Nat} {n i j : Nat} {l : List D} (hi : seqOf M i = some l) (hj : seqOf M j = some []) (h : ∀ d ∈ l, okV M R n d) (hn : n < 19) : oEq (.ref i) (.ref j) M = some (.bl l.isEmpty, M) := by
  obtain ⟨ps, q1, q2, q3, q4⟩ := pyL_okV (k := 19) hn l h
  have e1 : pyD M FU (.ref i) = some (.list ps) := by
    show pyD M (19 + 1) (.ref i) = _
    unfold pyD
    rw [hi]
    dsimp only
    rw [q1]
    rfl
  have e2 : pyD M FU (.ref j) = some (.list []) := by
    show pyD M (19 + 1) (.ref j) = _
    unfold pyD
    rw [hj]
    rfl
  have s1 : SeqAt.shaped (.list ps) = true := by
    unfold SeqAt.shaped PyData.canLay0 PyData.depth
    rw [q2, decide_eq_true (by omega)]
    rfl
  show (dEqB M (.ref i) (.ref j)).map _ = _
  unfold dEqB
  rw [e1, e2]
  dsimp only
  rw [s1, show SeqAt.shaped (.list []) = true by decide +kernel]
  show some (D.bl (PyData.eqv (.list ps) (.list [])), M) = _
  congr 3
  rw [Bool.eq_iff_iff, List.isEmpty_iff]
  cases ps with
  | nil => exact ⟨fun _ => q4.mp rfl, fun _ => rfl⟩
  | cons p ps => exact ⟨fun z => (by cases z), fun z => absurd (q4.mpr z) (by simp)⟩
theorem oEq_blV (a b : Bool) (M : Mem) : oEq (.bl a) (.bl b) M = some (.bl (decide (a = b)), M) := by
  cases a <;> cases b <;> rfl
/-! ### values drawn in a comprehension -/
/-- within it: the list at its place, and what came behind it -/
structure InX (s : Nat) (R : List Nat) (n : Nat) (M1 : Mem) (acc : List D) (M : Mem) : Prop where
  e : ∃ (a b : Int) (G : Mem), 0 ≤ a ∧ 0 ≤ b ∧ b < 2 ^ 40 ∧ M = M1.set s (srcM a b) ++ (.lst acc :: G)
  w : WM M
  v : ∀ d ∈ acc, okV M (M1.length :: R) n d
theorem compL_drawX {s nn n : Nat} {R : List Nat} {g : GF D} {te : EF D} {δ : DEnv} {M1 : Mem} (hn : nn = M1.length) (hs : s < M1.length) (sR : s ∈ R) (hR : ∀ r ∈ R, r < M1.length) : ∀ (l acc : List D) (M : Mem), acc.length + l.length ≤ sizeLine → InX s R n M1 acc M →
    (∀ d ∈ l, ∀ M acc, InX s R n M1 acc M → ∃ δ', g d δ M = some (δ', M) ∧ DrX s M (M1.length :: R) n (te δ' M)) →
    ∃ acc' M', compL nn g tTrue te δ l M = some M' ∧ acc'.length = acc.length + l.length ∧ InX s R n M1 acc' M'
  | [], acc, M, _, h, _ => ⟨acc, M, rfl, rfl, h⟩
  | d :: l, acc, M, hl, h, st => by
    obtain ⟨δ', h1, x, M', h2, h3, h4, h5⟩ := st d List.mem_cons_self M acc h
    rw [List.length_cons] at hl
    obtain ⟨⟨a, b, G, k1, k2, k3, rfl⟩, w, v⟩ := h
    obtain ⟨a', b', G', j1, j2, j3, rfl⟩ := h3
    have lenS : ∀ a b, (M1.set s (srcM a b)).length = M1.length := fun _ _ => List.length_set ..
    have em : (M1.set s (srcM a b) ++ (.lst acc :: G)).set s (srcM a' b') ++ G' = M1.set s (srcM a' b') ++ (.lst acc :: (G ++ G')) := by
      rw [set_app (by rw [lenS]; exact hs), List.set_set, List.append_assoc]
      rfl
    rw [em] at h2 h4 h5
    have step : compStep nn g tTrue te δ d (M1.set s (srcM a b) ++ (.lst acc :: G)) = some (M1.set s (srcM a' b') ++ (.lst (acc ++ [x]) :: (G ++ G'))) := by
      unfold compStep
      rw [h1]
      dsimp only
      show (match tTrue δ' (M1.set s (srcM a b) ++ (.lst acc :: G)) with
        | .ok b M2 => _
        | _ => none) = _
      show (if true = true then _ else _) = _
      rw [if_pos rfl, h2]
      dsimp only
      have hn' : nn = (M1.set s (srcM a' b')).length := by rw [lenS]; exact hn
      rw [hn', lstOf_new0, lstOf_c0]
      dsimp only
      rw [if_pos (by omega), setM_new0]
      rfl
    have keep : ∀ (d : D) m, okV (M1.set s (srcM a' b') ++ (.lst acc :: (G ++ G'))) (M1.length :: R) m d → okV (M1.set s (srcM a' b') ++ (.lst (acc ++ [x]) :: (G ++ G'))) (M1.length :: R) m d := fun d m hd => by
      refine okV.keep (fun k l hk hl => ?_) m d hd
      have hk' : k ≠ M1.length := fun z => hk (by rw [z]; exact List.mem_cons_self)
      have : M1.set s (srcM a' b') ++ (.lst (acc ++ [x]) :: (G ++ G')) = (M1.set s (srcM a' b') ++ (.lst acc :: (G ++ G'))).set M1.length (.lst (acc ++ [x])) := by
        rw [← lenS a' b', setM_new0]
        rfl
      rw [this]
      unfold lstOf at hl ⊢
      rw [List.getElem?_set_ne (Ne.symm hk')]
      exact hl
    have inx : InX s R n M1 (acc ++ [x]) (M1.set s (srcM a' b') ++ (.lst (acc ++ [x]) :: (G ++ G'))) := by
      refine ⟨⟨a', b', G ++ G', j1, j2, j3, rfl⟩, ?_, fun d hd => ?_⟩
      · have : M1.set s (srcM a' b') ++ (.lst (acc ++ [x]) :: (G ++ G')) = (M1.set s (srcM a' b') ++ (.lst acc :: (G ++ G'))).set M1.length (.lst (acc ++ [x])) := by
          rw [← lenS a' b', setM_new0]
          rfl
        rw [this]
        refine h4.put fun d hd => ?_
        rcases List.mem_append.mp hd with z | z
        · exact h4.lst (k := M1.length) (l := acc) (by rw [← lenS a' b', lstOf_new0]; rfl) d z
        · rw [List.mem_singleton.mp z]; exact okV.below h4 n x h5
      · rcases List.mem_append.mp hd with z | z
        · have o := v d z
          have ex : Ext s (M1.set s (srcM a b) ++ (.lst acc :: G)) (M1.set s (srcM a' b') ++ (.lst acc :: (G ++ G'))) := ⟨a', b', G', j1, j2, j3, em.symm⟩
          exact keep d n (o.ext ex (List.mem_cons_of_mem _ sR))
        · rw [List.mem_singleton.mp z]; exact keep x n h5
    obtain ⟨acc', M', q1, q2, q3⟩ := compL_drawX hn hs sR hR l (acc ++ [x]) _ (by rw [List.length_append, List.length_singleton]; omega) inx fun d' hd' => st d' (List.mem_cons_of_mem _ hd')
    refine ⟨acc', M', ?_, by rw [q2, List.length_append, List.length_singleton, List.length_cons]; omega, q3⟩
    unfold compL
    rw [step]
    exact q1
theorem dLc_drawX {own : List Nat} {s n : Nat} {R : List Nat} {src : EF Src} {g : GF D} {te : EF D} {δ : DEnv} {M M1 : Mem} {l : List D} (hs : src δ M = .ok (.items l) M1) (ho : okS M1 s) (w : WM M1) (sR : s ∈ R) (hR : ∀ r ∈ R, r < M1.length) (hl : l.length ≤ sizeLine)
    (h : ∀ d ∈ l, ∀ M acc, InX s R n M1 acc M → ∃ δ', g d (wipeD δ own) M = some (δ', M) ∧ DrX s M (M1.length :: R) n (te δ' M)) :
    ∃ acc M', dLc own src g tTrue te δ M = .ok (.ref M1.length) M' ∧ acc.length = l.length ∧ InX s R n M1 acc M' := by
  obtain ⟨a, b, e, h1, h2, h3⟩ := id ho
  have i0 : InX s R n M1 [] (M1 ++ [.lst []]) := ⟨⟨a, b, [], h1, h2, h3, by rw [set_same e]⟩, w.app (fun d hd => by cases hd), fun d hd => by cases hd⟩
  obtain ⟨acc, M', q1, q2, q3⟩ := compL_drawX (nn := M1.length) (g := g) (te := te) (δ := wipeD δ own) (n := n) rfl ho.lt sR hR l [] _ (by simpa using hl) i0 h
  refine ⟨acc, M', ?_, by simpa using q2, q3⟩
  unfold dLc
  rw [hs]
  show (match compL M1.length g tTrue te (wipeD δ own) l (M1 ++ [.lst []]) with
    | some M' => Res.ok (D.ref M1.length) M'
    | none => .bad) = _
  rw [q1]
/-- behind it -/
theorem InX.ext {s n : Nat} {R : List Nat} {M1 : Mem} {acc : List D} {M : Mem} (h : InX s R n M1 acc M) : Ext s M1 M ∧ lstOf M M1.length = some acc ∧ ∀ d ∈ acc, okV M R n d := by
  obtain ⟨⟨a, b, G, h1, h2, h3, rfl⟩, w, v⟩ := h
  exact ⟨⟨a, b, _, h1, h2, h3, rfl⟩, by rw [show M1.length = (M1.set s (srcM a b)).length by rw [List.length_set], lstOf_new0]; rfl, fun d hd => okV.less (fun x hx => List.mem_cons_of_mem _ hx) n d (v d hd)⟩
theorem InX.okS {s n : Nat} {R : List Nat} {M1 : Mem} {acc : List D} {M : Mem} (h : InX s R n M1 acc M) (hs : s < M1.length) : okS M s := (h.ext.1).okS hs
end Pd
namespace Pd
open PySem
/-! ### a comprehension that draws: each result by its item -/
def All2 {α β : Type} (P : α → β → Prop) : List α → List β → Prop
  | [], [] => True
  | a :: l, b :: m => P a b ∧ All2 P l m
  | _, _ => False
theorem All2.len {α β : Type} {P : α → β → Prop} : ∀ {l : List α} {m : List β}, All2 P l m → m.length = l.length
  | [], [], _ => rfl
  | _ :: _, _ :: _, h => by rw [List.length_cons, List.length_cons, All2.len h.2]
  | [], _ :: _, h => h.elim
  | _ :: _, [], h => h.elim
theorem All2.get {α β : Type} {P : α → β → Prop} : ∀ {l : List α} {m : List β} {i : Nat} {a : α} {b : β}, All2 P l m → l[i]? = some a → m[i]? = some b → P a b
  | [], _, _, _, _, _, h, _ => by cases h
  | _ :: _, [], _, _, _, h, _, _ => h.elim
  | x :: l, y :: m, 0, a, b, h, h1, h2 => by cases h1; cases h2; exact h.1
  | x :: l, y :: m, i + 1, a, b, h, h1, h2 => All2.get (i := i) h.2 (by simpa using h1) (by simpa using h2)
theorem All2.mem {α β : Type} {P : α → β → Prop} : ∀ {l : List α} {m : List β} {b : β}, All2 P l m → b ∈ m → ∃ a ∈ l, P a b
  | [], [], _, _, h => by cases h
  | [], _ :: _, _, h, _ => h.elim
  | _ :: _, [], _, h, _ => h.elim
  | x :: l, y :: m, b, h, hb => by
    rcases List.mem_cons.mp hb with e | hb
    · rw [e]; exact ⟨x, List.mem_cons_self, h.1⟩
    · obtain ⟨a, ha, p⟩ := All2.mem h.2 hb
      exact ⟨a, List.mem_cons_of_mem _ ha, p⟩
theorem compL_draw2 {s n : Nat} {g : GF D} {te : EF D} {δ : DEnv} {P : D → D → Prop} : ∀ (l acc : List D) (M0 : Mem), n = M0.length → s < M0.length → okS M0 s → acc.length + l.length ≤ sizeLine →
    (∀ d ∈ l, ∀ (a b : Int) acc, 0 ≤ a → 0 ≤ b → b < 2 ^ 40 → ∃ δ', g d δ (M0.set s (srcM a b) ++ [.lst acc]) = some (δ', M0.set s (srcM a b) ++ [.lst acc]) ∧ Dr s (M0.set s (srcM a b) ++ [.lst acc]) (P d) (te δ' (M0.set s (srcM a b) ++ [.lst acc]))) →
    ∃ ys a b, compL n g tTrue te δ l (M0 ++ [.lst acc]) = some (M0.set s (srcM a b) ++ [.lst (acc ++ ys)]) ∧ All2 P l ys ∧ 0 ≤ a ∧ 0 ≤ b ∧ b < 2 ^ 40
  | [], acc, M0, _, hs, ho, _, _ => by
    obtain ⟨a, b, e, h1, h2, h3⟩ := ho
    refine ⟨[], a, b, ?_, trivial, h1, h2, h3⟩
    rw [set_same e, List.append_nil]
    rfl
  | d :: l, acc, M0, hn, hs, ho, hl, h => by
    obtain ⟨a0, b0, e0, g1, g2, g3⟩ := id ho
    have same := set_same e0
    obtain ⟨δ', h1, h2⟩ := h d List.mem_cons_self a0 b0 acc g1 g2 g3
    rw [same] at h1 h2
    obtain ⟨x, a, b, hx, e, _, k1, k2, k3⟩ := dr_nextP h2 (by rw [List.length_append]; omega)
    rw [set_app hs] at e
    rw [List.length_cons] at hl
    have step : compStep n g tTrue te δ d (M0 ++ [.lst acc]) = some (M0.set s (srcM a b) ++ [.lst (acc ++ [x])]) := by
      unfold compStep
      rw [h1]
      dsimp only
      show (match tTrue δ' (M0 ++ [.lst acc]) with
        | .ok b M2 => _
        | _ => none) = _
      show (if true = true then _ else _) = _
      rw [if_pos rfl, e]
      dsimp only
      have hn' : n = (M0.set s (srcM a b)).length := by rw [List.length_set]; exact hn
      rw [hn', lstOf_mid]
      dsimp only
      rw [if_pos (by omega)]
      simp
    obtain ⟨ys, a', b', q1, q2, q4, q5, q6⟩ := compL_draw2 (n := n) (P := P) l (acc ++ [x]) (M0.set s (srcM a b)) (by rw [List.length_set]; exact hn) (by rw [List.length_set]; exact hs) (okS.set hs k1 k2 k3) (by rw [List.length_append, List.length_singleton]; omega)
      (fun d' hd' a b acc ha hb hb2 => by rw [List.set_set]; exact h d' (List.mem_cons_of_mem _ hd') a b acc ha hb hb2)
    refine ⟨x :: ys, a', b', ?_, ⟨hx, q2⟩, q4, q5, q6⟩
    unfold compL
    rw [step]
    show compL n g tTrue te δ l (M0.set s (srcM a b) ++ [.lst (acc ++ [x])]) = _
    rw [q1, List.set_set]
    simp
theorem dLc_draw2 {own : List Nat} {s : Nat} {src : EF Src} {g : GF D} {te : EF D} {δ : DEnv} {M M1 : Mem} {l : List D} (P : D → D → Prop) (hs : src δ M = .ok (.items l) M1) (ho : okS M1 s) (hl : l.length ≤ sizeLine)
    (h : ∀ d ∈ l, ∀ (a b : Int) acc, 0 ≤ a → 0 ≤ b → b < 2 ^ 40 → ∃ δ', g d (wipeD δ own) (M1.set s (srcM a b) ++ [.lst acc]) = some (δ', M1.set s (srcM a b) ++ [.lst acc]) ∧ Dr s (M1.set s (srcM a b) ++ [.lst acc]) (P d) (te δ' (M1.set s (srcM a b) ++ [.lst acc]))) :
    ∃ ys a b, dLc own src g tTrue te δ M = .ok (.ref M1.length) (M1.set s (srcM a b) ++ [.lst ys]) ∧ All2 P l ys ∧ 0 ≤ a ∧ 0 ≤ b ∧ b < 2 ^ 40 := by
  obtain ⟨ys, a, b, e, q2, q4, q5, q6⟩ := compL_draw2 (n := M1.length) (g := g) (te := te) (δ := wipeD δ own) (P := P) l [] M1 rfl ho.lt ho (by simpa using hl) h
  refine ⟨ys, a, b, ?_, q2, q4, q5, q6⟩
  unfold dLc
  rw [hs]
  show (match compL M1.length g tTrue te (wipeD δ own) l (M1 ++ [.lst []]) with
    | some M' => Res.ok (D.ref M1.length) M'
    | none => .bad) = _
  rw [e]
  rfl
/-! ### a number in a tuple of numbers -/
theorem flatL_ints : ∀ l : List Int, flatL (l.map D.int) = some (l.map L2.V.int)
  | [] => rfl
  | i :: l => by
    rw [List.map_cons]
    unfold flatL
    rw [flatL_ints l]
    rfl
theorem inV_ints (i : Int) (l : List Int) : L2.inV (.int i) (l.map L2.V.int) = decide (i ∈ l) := by
  unfold L2.inV
  induction l with
  | nil => rfl
  | cons x l ih =>
    rw [List.map_cons, List.any_cons, ih]
    have e : L2.eqV (.int x) (.int i) = decide (x = i) := by
      first | rfl | (unfold L2.eqV; rfl) | simp [L2.eqV]
    rw [e, Bool.eq_iff_iff, Bool.or_eq_true, decide_eq_true_iff, decide_eq_true_iff, decide_eq_true_iff, List.mem_cons]
    exact ⟨fun h => h.elim (fun z => .inl z.symm) .inr, fun h => h.elim (fun z => .inl z.symm) .inr⟩
theorem oIn_ints (i : Int) (l : List Int) (M : Mem) : oIn (.int i) (.tup (l.map D.int)) M = some (.bl (decide (i ∈ l)), M) := by
  have e1 : inFlat (.int i) (.tup (l.map D.int)) M = some (decide (i ∈ l)) := by
    unfold inFlat
    show (match flatOf (.int i), (some (l.map D.int)).bind flatL with
      | some x, some xs => some (L2.inV x xs)
      | _, _ => none) = _
    rw [Option.bind_some, flatL_ints, ← inV_ints]
    rfl
  have e2 : inStr (.int i) (.tup (l.map D.int)) = none := rfl
  unfold oIn dInB
  rw [e2, e1]
  rfl
/-! ### pairs and numbered items -/
theorem pairsD_length : ∀ (l m : List D), (pairsD l m).length = min l.length m.length
  | [], m => by show 0 = _; simp
  | _ :: _, [] => by show 0 = _; simp
  | a :: l, b :: m => by
    show (pairsD l m).length + 1 = _
    rw [pairsD_length l m, List.length_cons, List.length_cons]
    omega
theorem enumD_length : ∀ (l : List D) (k : Nat), (enumD k l).length = l.length
  | [], _ => rfl
  | d :: l, k => by
    show (enumD (k + 1) l).length + 1 = _
    rw [enumD_length l (k + 1)]
    rfl
end Pd
namespace Hr
open Pd
/-! Buckets handed round, in plain lists of numbers: counters -/
theorem sortI_of {l : List Int} (h : l.Pairwise (· ≤ ·)) : sortI l = l := sorted_one (sortI_sorted l) h (sortI_perm l)
def cnt (p : Nat → Bool) : Nat → Nat
  | 0 => 0
  | t + 1 => cnt p t + if p t = true then 1 else 0
theorem cnt_le (p : Nat → Bool) (t : Nat) : cnt p t ≤ cnt p (t + 1) := Nat.le_add_right _ _
theorem cnt_mono (p : Nat → Bool) {s t : Nat} (h : s ≤ t) : cnt p s ≤ cnt p t := by
  induction t with
  | zero => have : s = 0 := by omega
            subst this; exact Nat.le_refl _
  | succ t ih =>
    by_cases e : s = t + 1
    · subst e; exact Nat.le_refl _
    · exact Nat.le_trans (ih (by omega)) (cnt_le p t)
theorem cnt_step (p : Nat → Bool) (t : Nat) : cnt p (t + 1) ≤ cnt p t + 1 := by
  show cnt p t + (if p t = true then 1 else 0) ≤ _
  split <;> omega
theorem cnt_true {p : Nat → Bool} {t : Nat} (h : p t = true) : cnt p (t + 1) = cnt p t + 1 := by
  show cnt p t + (if p t = true then 1 else 0) = _
  rw [if_pos h]
theorem cnt_false {p : Nat → Bool} {t : Nat} (h : p t = false) : cnt p (t + 1) = cnt p t := by
  show cnt p t + (if p t = true then 1 else 0) = _
  rw [if_neg (by rw [h]; exact Bool.false_ne_true), Nat.add_zero]
/-- the k-th time of p lies ahead of t -/
theorem cnt_gt {p : Nat → Bool} {k : Nat} : ∀ {t : Nat}, k < cnt p t → ∃ u, u < t ∧ p u = true ∧ cnt p u = k
  | 0, h => absurd h (Nat.not_lt_zero _)
  | t + 1, h => by
    by_cases g : k < cnt p t
    · obtain ⟨u, h1, h2⟩ := cnt_gt g
      exact ⟨u, by omega, h2⟩
    · cases e : p t with
      | true =>
        rw [cnt_true e] at h
        exact ⟨t, by omega, e, by omega⟩
      | false =>
        rw [cnt_false e] at h
        omega
theorem cnt_of {p : Nat → Bool} {u t : Nat} (h : p u = true) (ht : u < t) : cnt p u < cnt p t := by
  have := cnt_mono p (show u + 1 ≤ t by omega)
  rw [cnt_true h] at this
  omega
/-! ### a row of things that become ready -/
/-- what is on its way: due within less than c beats -/
def pend (p : Nat → Bool) (c t : Nat) : List Int := (List.range (c - 1)).filterMap fun r => if c ≤ t + (r + 1) ∧ p (t + (r + 1) - c) = true then some ((r + 1 : Nat) : Int) else none
def queue (inn out : Nat → Bool) (k c t : Nat) : List Int := List.replicate (k + cnt inn (t + 1 - c) - cnt out t) 0 ++ pend inn c t
def dec1 (x : Int) : Int := if x - 1 > 0 then x - 1 else 0
def rdy (l : List Int) : Bool := match l with
  | x :: _ => decide (x = 0)
  | [] => false
def laterL (b : List Int) (gone : Bool) (new : Int) : List Int := sortI ((if gone = true then b.drop 1 else b).map dec1 ++ if 0 < new then [new - 1] else [])
theorem pend_mem {p : Nat → Bool} {c t : Nat} {x : Int} (h : x ∈ pend p c t) : 1 ≤ x ∧ x ≤ (c : Int) - 1 := by
  obtain ⟨r, hr, e⟩ := List.mem_filterMap.mp h
  have hr' := List.mem_range.mp hr
  split at e
  · cases e; omega
  · cases e
theorem pend_sorted (p : Nat → Bool) (c t : Nat) : (pend p c t).Pairwise (· ≤ ·) := by
  unfold pend
  rw [List.pairwise_filterMap]
  refine List.Pairwise.imp_of_mem (R := fun a b => a < b) (fun {a b} _ _ h x hx y hy => ?_) List.pairwise_lt_range
  split at hx
  · split at hy
    · cases hx; cases hy; omega
    · cases hy
  · cases hx
theorem queue_rdy (inn out : Nat → Bool) (k c t : Nat) : rdy (queue inn out k c t) = decide (cnt out t < k + cnt inn (t + 1 - c)) := by
  unfold queue
  cases e : k + cnt inn (t + 1 - c) - cnt out t with
  | zero =>
    rw [decide_eq_false (by omega), List.replicate_zero, List.nil_append]
    cases h : pend inn c t with
    | nil => rfl
    | cons x l =>
      have : 1 ≤ x := (pend_mem (p := inn) (c := c) (t := t) (x := x) (by rw [h]; exact List.mem_cons_self)).1
      show decide (x = 0) = false
      exact decide_eq_false (by omega)
  | succ n =>
    rw [decide_eq_true (by omega), List.replicate_succ]
    rfl
theorem queue_zero (inn out : Nat → Bool) (k c : Nat) (h : 1 ≤ c) : queue inn out k c 0 = List.replicate k 0 := by
  unfold queue pend
  have e1 : cnt inn (0 + 1 - c) = 0 := by rw [show 0 + 1 - c = 0 by omega]; rfl
  have e2 : cnt out 0 = 0 := rfl
  rw [e1, e2, Nat.add_zero, Nat.sub_zero]
  have : ((List.range (c - 1)).filterMap fun r => if c ≤ 0 + (r + 1) ∧ inn (0 + (r + 1) - c) = true then some ((r + 1 : Nat) : Int) else none) = [] := by
    rw [List.filterMap_eq_nil_iff]
    intro r hr
    have := List.mem_range.mp hr
    rw [if_neg (by omega)]
  rw [this, List.append_nil]
theorem fm_congr {α β : Type} {f g : α → Option β} : ∀ {l : List α}, (∀ a ∈ l, f a = g a) → l.filterMap f = l.filterMap g
  | [], _ => rfl
  | a :: l, h => by
    rw [List.filterMap_cons, List.filterMap_cons, h a List.mem_cons_self, fm_congr fun b hb => h b (List.mem_cons_of_mem _ hb)]
theorem pend_dec (p : Nat → Bool) (c t : Nat) (h : 2 ≤ c) : (pend p c t).map dec1 ++ (if p t = true then [(c : Int) - 1] else []) = (if c ≤ t + 1 ∧ p (t + 1 - c) = true then [0] else []) ++ pend p c (t + 1) := by
  obtain ⟨c, rfl⟩ : ∃ d, c = d + 2 := ⟨c - 2, by omega⟩
  have e1 : (pend p (c + 2) t).map dec1 = (if c + 2 ≤ t + 1 ∧ p (t + 1 - (c + 2)) = true then [0] else []) ++ ((List.range c).filterMap fun r => if c + 2 ≤ t + 1 + (r + 1) ∧ p (t + 1 + (r + 1) - (c + 2)) = true then some ((r + 1 : Nat) : Int) else none) := by
    unfold pend
    rw [show c + 2 - 1 = c + 1 from rfl, List.range_succ_eq_map, List.filterMap_cons, Nat.zero_add]
    have rest : (((List.map Nat.succ (List.range c)).filterMap fun r => if c + 2 ≤ t + (r + 1) ∧ p (t + (r + 1) - (c + 2)) = true then some ((r + 1 : Nat) : Int) else none).map dec1) = ((List.range c).filterMap fun r => if c + 2 ≤ t + 1 + (r + 1) ∧ p (t + 1 + (r + 1) - (c + 2)) = true then some ((r + 1 : Nat) : Int) else none) := by
      rw [List.filterMap_map, List.map_filterMap]
      refine fm_congr fun r _ => ?_
      show Option.map dec1 (if c + 2 ≤ t + (r + 1 + 1) ∧ p (t + (r + 1 + 1) - (c + 2)) = true then some ((r + 1 + 1 : Nat) : Int) else none) = _
      rw [show t + (r + 1 + 1) = t + 1 + (r + 1) by omega]
      split
      · show some (dec1 _) = _
        unfold dec1
        rw [if_pos (by omega)]
        congr 1
        omega
      · rfl
    by_cases g : c + 2 ≤ t + 1 ∧ p (t + 1 - (c + 2)) = true
    · rw [if_pos g, if_pos g]
      dsimp only
      rw [List.map_cons, rest]
      rfl
    · rw [if_neg g, if_neg g]
      dsimp only
      rw [rest]
      rfl
  have e2 : pend p (c + 2) (t + 1) = ((List.range c).filterMap fun r => if c + 2 ≤ t + 1 + (r + 1) ∧ p (t + 1 + (r + 1) - (c + 2)) = true then some ((r + 1 : Nat) : Int) else none) ++ if p t = true then [((c + 2 : Nat) : Int) - 1] else [] := by
    unfold pend
    rw [show c + 2 - 1 = c + 1 from rfl, List.range_succ, List.filterMap_append]
    congr 1
    rw [List.filterMap_cons, List.filterMap_nil]
    have : t + 1 + (c + 1) - (c + 2) = t := by omega
    rw [this]
    by_cases g : p t = true
    · rw [if_pos ⟨by omega, g⟩, if_pos g]
      dsimp only
      congr 1
      omega
    · rw [if_neg (fun z => g z.2), if_neg g]
  rw [e1, e2, List.append_assoc]
theorem queue_sorted (inn out : Nat → Bool) (k c t : Nat) : (queue inn out k c t).Pairwise (· ≤ ·) := by
  unfold queue
  refine List.pairwise_append.mpr ⟨List.pairwise_replicate.mpr (.inr (by omega)), pend_sorted inn c t, fun x hx y hy => ?_⟩
  rw [(List.mem_replicate.mp hx).2]
  have := (pend_mem hy).1
  omega
theorem map_dec_zero (n : Nat) : (List.replicate n (0 : Int)).map dec1 = List.replicate n 0 := by
  rw [List.map_replicate]
  rfl
/-- a beat later -/
theorem queue_step (inn out : Nat → Bool) (k c t : Nat) (hc : 1 ≤ c) (hle : cnt out t ≤ k + cnt inn (t + 1 - c)) (ho : out t = true → cnt out t < k + cnt inn (t + 1 - c)) :
    laterL (queue inn out k c t) (out t) (if inn t = true then (c : Int) else 0) = queue inn out k c (t + 1) ∧ cnt out (t + 1) ≤ k + cnt inn (t + 1 + 1 - c) := by
  have left : (if out t = true then (queue inn out k c t).drop 1 else queue inn out k c t) = List.replicate (k + cnt inn (t + 1 - c) - cnt out (t + 1)) 0 ++ pend inn c t := by
    cases e : out t with
    | false => rw [if_neg Bool.false_ne_true, cnt_false e]; rfl
    | true =>
      have := ho e
      rw [if_pos rfl, cnt_true e]
      unfold queue
      rw [show k + cnt inn (t + 1 - c) - cnt out t = k + cnt inn (t + 1 - c) - (cnt out t + 1) + 1 by omega, List.replicate_succ]
      rfl
  have le1 : cnt out (t + 1) ≤ k + cnt inn (t + 1 - c) := by
    cases e : out t with
    | false => rw [cnt_false e]; exact hle
    | true => have := ho e; rw [cnt_true e]; omega
  have mono := cnt_mono inn (show t + 1 - c ≤ t + 1 + 1 - c by omega)
  refine ⟨?_, by omega⟩
  have key : (List.replicate (k + cnt inn (t + 1 - c) - cnt out (t + 1)) (0 : Int) ++ pend inn c t).map dec1 ++ (if (0 : Int) < (if inn t = true then (c : Int) else 0) then [(if inn t = true then (c : Int) else 0) - 1] else []) = queue inn out k c (t + 1) := by
    rw [List.map_append, map_dec_zero]
    have e2 : (if (0 : Int) < (if inn t = true then (c : Int) else 0) then [(if inn t = true then (c : Int) else 0) - 1] else []) = if inn t = true then [(c : Int) - 1] else [] := by
      by_cases g : inn t = true
      · rw [if_pos g, if_pos g, if_pos (by omega)]
      · rw [if_neg g, if_neg g, if_neg (by omega)]
    rw [e2]
    by_cases c1 : c = 1
    · subst c1
      have p0 : ∀ t, pend inn 1 t = [] := fun _ => rfl
      unfold queue
      rw [p0, p0, List.map_nil, List.append_nil, List.append_nil]
      rw [show t + 1 + 1 - 1 = t + 1 from rfl, show t + 1 - 1 = t from rfl] at *
      by_cases g : inn t = true
      · rw [if_pos g, cnt_true g, show k + (cnt inn t + 1) - cnt out (t + 1) = (k + cnt inn t - cnt out (t + 1)) + 1 by omega, List.replicate_succ']
        rfl
      · have g' : inn t = false := by cases h : inn t <;> simp_all
        rw [if_neg g, cnt_false g', List.append_nil]
    · rw [List.append_assoc, pend_dec inn c t (by omega), ← List.append_assoc]
      unfold queue
      congr 1
      by_cases g : c ≤ t + 1 ∧ inn (t + 1 - c) = true
      · rw [if_pos g, show t + 1 + 1 - c = (t + 1 - c) + 1 by omega, cnt_true g.2, show k + (cnt inn (t + 1 - c) + 1) - cnt out (t + 1) = (k + cnt inn (t + 1 - c) - cnt out (t + 1)) + 1 by omega, List.replicate_succ']
      · rw [if_neg g, List.append_nil]
        congr 1
        by_cases h : c ≤ t + 1
        · have g' : inn (t + 1 - c) = false := by
            cases e : inn (t + 1 - c) with
            | false => rfl
            | true => exact absurd ⟨h, e⟩ g
          rw [show t + 1 + 1 - c = (t + 1 - c) + 1 by omega, cnt_false g']
        · rw [show t + 1 + 1 - c = 0 by omega, show t + 1 - c = 0 by omega]
  unfold laterL
  rw [left, key, sortI_of (queue_sorted inn out k c (t + 1))]
end Hr
namespace Hr
open Pd
abbrev Ppl := List (Int × Int × Int)
abbrev Stg := List (List Int × List Int)
def who (c : Ppl) (i : Nat) : Int × Int × Int := c.getD i (1, 1, 1)
def Cy (c : Ppl) (i : Nat) : Nat := (who c i).1.toNat
def Bk (c : Ppl) (i : Nat) : Nat := (who c i).2.1.toNat
def Hd (c : Ppl) (i : Nat) : Nat := (who c i).2.2.toNat
def Fl (f : List Int) (i : Nat) : Nat := (f.getD i 0).toNat
def Gl (c : Ppl) (f : List Int) (i : Nat) : Nat := Hd c i - Fl f i
def at' (s : Stg) (i : Nat) : List Int × List Int := s.getD i ([], [])
def pr (n i : Nat) : Nat := (i + n - 1) % n
def su (n i : Nat) : Nat := (i + 1) % n
theorem pr_lt {n i : Nat} (h : 0 < n) : pr n i < n := Nat.mod_lt _ h
theorem su_lt {n i : Nat} (h : 0 < n) : su n i < n := Nat.mod_lt _ h
theorem pr_su {n i : Nat} (h : i < n) : pr n (su n i) = i := by
  unfold pr su
  by_cases e : i + 1 = n
  · rw [e, Nat.mod_self, Nat.zero_add, Nat.mod_eq_of_lt (by omega)]
    omega
  · rw [Nat.mod_eq_of_lt (show i + 1 < n by omega), show i + 1 + n - 1 = i + n by omega, Nat.add_mod_right, Nat.mod_eq_of_lt h]
theorem su_pr {n i : Nat} (h : i < n) : su n (pr n i) = i := by
  unfold pr su
  by_cases e : i = 0
  · subst e
    rw [Nat.zero_add, Nat.mod_eq_of_lt (show n - 1 < n by omega), show n - 1 + 1 = n by omega, Nat.mod_self]
  · rw [show i + n - 1 = (i - 1) + n by omega, Nat.add_mod_right, Nat.mod_eq_of_lt (show i - 1 < n by omega), show i - 1 + 1 = i by omega, Nat.mod_eq_of_lt h]
def giversL (s : Stg) : List Nat := (List.range s.length).filter fun i => rdy (at' s i).1 && rdy (at' s (su s.length i)).2
def stepL (c : Ppl) (s : Stg) : Stg := (List.range c.length).map fun i =>
  (laterL (at' s i).1 (decide (i ∈ giversL s)) (if decide (pr c.length i ∈ giversL s) = true then (who c i).1 else 0),
   laterL (at' s i).2 (decide (pr c.length i ∈ giversL s)) (if decide (i ∈ giversL s) = true then (who c i).2.1 else 0))
def firstL (c : Ppl) (f : List Int) : Stg := (List.range c.length).map fun i => (List.replicate (Fl f i) 0, List.replicate (Gl c f i) 0)
def runL (c : Ppl) (f : List Int) : Nat → Stg
  | 0 => firstL c f
  | t + 1 => stepL c (runL c f t)
def fire (c : Ppl) (f : List Int) (i t : Nat) : Bool := decide (i ∈ giversL (runL c f t))
/-- a circle with its filling -/
structure OkCF (c : Ppl) (f : List Int) : Prop where
  n0 : 0 < c.length
  len : f.length = c.length
  cy : ∀ i, i < c.length → 1 ≤ (who c i).1
  bk : ∀ i, i < c.length → 1 ≤ (who c i).2.1
  fl : ∀ i, i < c.length → 0 ≤ f.getD i 0 ∧ f.getD i 0 ≤ (who c i).2.2
section
variable {c : Ppl} {f : List Int}
theorem OkCF.c1 (h : OkCF c f) {i : Nat} (hi : i < c.length) : 1 ≤ Cy c i ∧ ((Cy c i : Nat) : Int) = (who c i).1 := by
  have := h.cy i hi
  unfold Cy
  omega
theorem OkCF.b1 (h : OkCF c f) {i : Nat} (hi : i < c.length) : 1 ≤ Bk c i ∧ ((Bk c i : Nat) : Int) = (who c i).2.1 := by
  have := h.bk i hi
  unfold Bk
  omega
theorem OkCF.fh (h : OkCF c f) {i : Nat} (hi : i < c.length) : Fl f i + Gl c f i = Hd c i := by
  have := h.fl i hi
  unfold Gl Fl Hd
  omega
def shape (c : Ppl) (f : List Int) (t i : Nat) : List Int × List Int :=
  (queue (fire c f (pr c.length i)) (fire c f i) (Fl f i) (Cy c i) t, queue (fire c f i) (fire c f (pr c.length i)) (Gl c f i) (Bk c i) t)
theorem at_map {n i : Nat} {g : Nat → List Int × List Int} (h : i < n) : at' ((List.range n).map g) i = g i := by
  unfold at'
  rw [List.getD_eq_getElem?_getD, List.getElem?_map, List.getElem?_range h]
  rfl
theorem len_run (t : Nat) : (runL c f t).length = c.length := by
  cases t with
  | zero => show (firstL c f).length = _; unfold firstL; rw [List.length_map, List.length_range]
  | succ t => show (stepL c _).length = _; unfold stepL; rw [List.length_map, List.length_range]
abbrev N (c : Ppl) (f : List Int) (i t : Nat) : Nat := cnt (fire c f i) t
/-- who hands on, by the numbers of handings on so far -/
def may (c : Ppl) (f : List Int) (i t : Nat) : Bool := decide (N c f i t < Fl f i + N c f (pr c.length i) (t + 1 - Cy c i)) && decide (N c f i t < Gl c f (su c.length i) + N c f (su c.length i) (t + 1 - Bk c (su c.length i)))
theorem fire_of (h : OkCF c f) {t : Nat} (e : runL c f t = (List.range c.length).map (shape c f t)) {i : Nat} (hi : i < c.length) : fire c f i t = may c f i t := by
  have hs := su_lt (n := c.length) (i := i) h.n0
  have key : (i ∈ giversL (runL c f t)) ↔ may c f i t = true := by
    unfold giversL
    rw [List.mem_filter, List.mem_range, len_run, e, at_map hi, at_map hs]
    unfold shape
    dsimp only
    rw [queue_rdy, queue_rdy, pr_su hi]
    exact ⟨fun z => z.2, fun z => ⟨hi, z⟩⟩
  unfold fire
  cases m : may c f i t with
  | true => exact decide_eq_true (key.mpr m)
  | false => exact decide_eq_false fun z => by rw [key.mp z] at m; cases m
theorem may_l {i t : Nat} (h : may c f i t = true) : N c f i t < Fl f i + N c f (pr c.length i) (t + 1 - Cy c i) ∧ N c f i t < Gl c f (su c.length i) + N c f (su c.length i) (t + 1 - Bk c (su c.length i)) := by
  obtain ⟨h1, h2⟩ := Bool.and_eq_true_iff.mp h
  exact ⟨of_decide_eq_true h1, of_decide_eq_true h2⟩
theorem run_ok (h : OkCF c f) : ∀ t, runL c f t = (List.range c.length).map (shape c f t) ∧ ∀ i, i < c.length → N c f i t ≤ Fl f i + N c f (pr c.length i) (t + 1 - Cy c i) ∧ N c f (pr c.length i) t ≤ Gl c f i + N c f i (t + 1 - Bk c i)
  | 0 => by
    refine ⟨?_, fun i hi => ⟨Nat.zero_le _, Nat.zero_le _⟩⟩
    show firstL c f = _
    unfold firstL
    refine List.map_congr_left fun i hi => ?_
    have hi' := List.mem_range.mp hi
    unfold shape
    rw [queue_zero _ _ _ _ (h.c1 hi').1, queue_zero _ _ _ _ (h.b1 hi').1]
  | t + 1 => by
    obtain ⟨e, le⟩ := run_ok h t
    have fr : ∀ i, i < c.length → fire c f i t = may c f i t := fun i hi => fire_of h e hi
    have st : ∀ i, i < c.length → (laterL (shape c f t i).1 (fire c f i t) (if fire c f (pr c.length i) t = true then (who c i).1 else 0) = (shape c f (t + 1) i).1 ∧ N c f i (t + 1) ≤ Fl f i + N c f (pr c.length i) (t + 1 + 1 - Cy c i)) ∧
        (laterL (shape c f t i).2 (fire c f (pr c.length i) t) (if fire c f i t = true then (who c i).2.1 else 0) = (shape c f (t + 1) i).2 ∧ N c f (pr c.length i) (t + 1) ≤ Gl c f i + N c f i (t + 1 + 1 - Bk c i)) := fun i hi => by
      obtain ⟨l1, l2⟩ := le i hi
      have hp := pr_lt (n := c.length) (i := i) h.n0
      constructor
      · rw [← (h.c1 hi).2]
        exact queue_step _ _ _ _ _ (h.c1 hi).1 l1 fun z => by
          rw [fr i hi] at z
          exact (may_l z).1
      · rw [← (h.b1 hi).2]
        exact queue_step _ _ _ _ _ (h.b1 hi).1 l2 fun z => by
          rw [fr _ hp] at z
          have := (may_l z).2
          rw [su_pr hi] at this
          exact this
    refine ⟨?_, fun i hi => ⟨(st i hi).1.2, (st i hi).2.2⟩⟩
    show stepL c (runL c f t) = _
    unfold stepL
    refine List.map_congr_left fun i hi => ?_
    have hi' := List.mem_range.mp hi
    have a : at' (runL c f t) i = shape c f t i := by rw [e, at_map hi']
    rw [a]
    show (laterL (shape c f t i).1 (fire c f i t) (if fire c f (pr c.length i) t = true then (who c i).1 else 0), laterL (shape c f t i).2 (fire c f (pr c.length i) t) (if fire c f i t = true then (who c i).2.1 else 0)) = _
    rw [(st i hi').1.1, (st i hi').2.1]
theorem fire_may (h : OkCF c f) {i : Nat} (hi : i < c.length) (t : Nat) : fire c f i t = may c f i t := fire_of h (run_ok h t).1 hi
theorem N_le (h : OkCF c f) {i : Nat} (hi : i < c.length) (t : Nat) : N c f i t ≤ Fl f i + N c f (pr c.length i) (t + 1 - Cy c i) ∧ N c f (pr c.length i) t ≤ Gl c f i + N c f i (t + 1 - Bk c i) := (run_ok h t).2 i hi
/-- a quicker circle hands on as often, at least -/
theorem quicker {c' : Ppl} (h : OkCF c f) (h' : OkCF c' f) (hn : c'.length = c.length) (hc : ∀ i, i < c.length → Cy c' i ≤ Cy c i) (hb : ∀ i, i < c.length → Bk c' i ≤ Bk c i) (hh : ∀ i, i < c.length → Hd c i ≤ Hd c' i) :
    ∀ t i, i < c.length → N c f i t ≤ N c' f i t := by
  intro t
  induction t using Nat.strongRecOn with
  | _ t ih =>
    intro i hi
    cases t with
    | zero => exact Nat.zero_le _
    | succ t =>
      have ih0 := ih t (by omega) i hi
      have m1 := cnt_le (fire c' f i) t
      cases e : fire c f i t with
      | false =>
        show cnt (fire c f i) (t + 1) ≤ _
        rw [cnt_false e]
        exact Nat.le_trans ih0 m1
      | true =>
        show cnt (fire c f i) (t + 1) ≤ cnt (fire c' f i) (t + 1)
        rw [cnt_true e]
        have ih0' : cnt (fire c f i) t ≤ cnt (fire c' f i) t := ih0
        by_cases g : cnt (fire c f i) t < cnt (fire c' f i) t
        · omega
        · have hi' : i < c'.length := by omega
          have eq : cnt (fire c' f i) t = cnt (fire c f i) t := by omega
          have fr : fire c' f i t = true := by
            rw [fire_may h' hi']
            rw [fire_may h hi] at e
            obtain ⟨a1, a2⟩ := may_l e
            have hp := pr_lt (n := c.length) (i := i) h.n0
            have hs := su_lt (n := c.length) (i := i) h.n0
            unfold may
            rw [hn]
            have c1 := (h.c1 hi).1
            have c1' := (h'.c1 hi').1
            have cc := hc i hi
            have bb := hb _ hs
            have hhs := hh _ hs
            have b1' := (h'.b1 (i := su c.length i) (by omega)).1
            have q1 := ih (t + 1 - Cy c i) (by omega) (pr c.length i) hp
            have q2 := cnt_mono (fire c' f (pr c.length i)) (show t + 1 - Cy c i ≤ t + 1 - Cy c' i by omega)
            have q3 := ih (t + 1 - Bk c (su c.length i)) (by have := (h.b1 hs).1; omega) (su c.length i) hs
            have q4 := cnt_mono (fire c' f (su c.length i)) (show t + 1 - Bk c (su c.length i) ≤ t + 1 - Bk c' (su c.length i) by omega)
            have gg : Gl c f (su c.length i) ≤ Gl c' f (su c.length i) := by unfold Gl; omega
            have q0 : N c' f i t = N c f i t := eq
            refine Bool.and_eq_true_iff.mpr ⟨decide_eq_true ?_, decide_eq_true ?_⟩
            · show N c' f i t < _
              have : N c f (pr c.length i) (t + 1 - Cy c i) ≤ N c' f (pr c.length i) (t + 1 - Cy c' i) := Nat.le_trans q1 q2
              omega
            · show N c' f i t < _
              have : N c f (su c.length i) (t + 1 - Bk c (su c.length i)) ≤ N c' f (su c.length i) (t + 1 - Bk c' (su c.length i)) := Nat.le_trans q3 q4
              omega
          rw [cnt_true fr]
          omega
end
end Hr
namespace Hr
open Pd
/-! the times of all handings on, by what each waits for -/
def tl (p : Nat → Bool) (T : Nat) : List Nat := (List.range T).filter p
theorem tl_succ (p : Nat → Bool) (T : Nat) : tl p (T + 1) = tl p T ++ if p T = true then [T] else [] := by
  unfold tl
  rw [List.range_succ, List.filter_append]
  congr 1
  by_cases h : p T = true <;> simp [h]
theorem tl_len (p : Nat → Bool) : ∀ T, (tl p T).length = cnt p T
  | 0 => rfl
  | T + 1 => by
    rw [tl_succ, List.length_append, tl_len p T]
    show _ = cnt p T + (if p T = true then 1 else 0)
    by_cases h : p T = true <;> simp [h]
theorem tl_get {p : Nat → Bool} {v : Nat} (h : p v = true) : ∀ {T : Nat}, v < T → (tl p T)[cnt p v]? = some v
  | 0, hv => absurd hv (Nat.not_lt_zero _)
  | T + 1, hv => by
    rw [tl_succ]
    by_cases e : v = T
    · subst e
      rw [if_pos h, ← tl_len]
      exact List.getElem?_concat_length
    · have ih := tl_get h (T := T) (by omega)
      rw [List.getElem?_append_left (List.getElem?_eq_some_iff.mp ih).1]
      exact ih
theorem get_tl {p : Nat → Bool} {k v : Nat} : ∀ {T : Nat}, (tl p T)[k]? = some v → p v = true ∧ v < T ∧ cnt p v = k
  | 0, h => by cases h
  | T + 1, h => by
    rw [tl_succ] at h
    by_cases g : k < (tl p T).length
    · rw [List.getElem?_append_left g] at h
      obtain ⟨h1, h2, h3⟩ := get_tl h
      exact ⟨h1, by omega, h3⟩
    · rw [List.getElem?_append_right (by omega)] at h
      by_cases e : p T = true
      · rw [if_pos e] at h
        have hk : k - (tl p T).length = 0 := by
          have := (List.getElem?_eq_some_iff.mp h).1
          simp at this
          omega
        rw [hk] at h
        cases h
        refine ⟨e, by omega, ?_⟩
        rw [← tl_len]
        omega
      · rw [if_neg e] at h
        cases h
def need (L : List Nat) (k F lag : Nat) : Option Nat := if k < F then some 0 else (L[k - F]?).map fun v => v + lag
def last (L : List Nat) : Nat := if 0 < L.length then L.getD (L.length - 1) 0 + 1 else 0
def row (A : List (List Nat)) (i : Nat) : List Nat := A.getD i []
def nextT (c : Ppl) (f : List Int) (A : List (List Nat)) (i : Nat) : Option Nat :=
  match need (row A (pr c.length i)) (row A i).length (Fl f i) (Cy c i), need (row A (su c.length i)) (row A i).length (Gl c f (su c.length i)) (Bk c (su c.length i)) with
  | some b, some h => some (max (max b h) (last (row A i)))
  | _, _ => none
structure Pre (c : Ppl) (f : List Int) (T : Nat) (A : List (List Nat)) : Prop where
  len : A.length = c.length
  pre : ∀ i, i < c.length → row A i <+: tl (fire c f i) T
section
variable {c : Ppl} {f : List Int} {T : Nat} {A : List (List Nat)}
theorem pre_get {l m : List Nat} (h : l <+: m) {k v : Nat} (e : l[k]? = some v) : m[k]? = some v := by
  obtain ⟨r, rfl⟩ := h
  rw [List.getElem?_append_left (List.getElem?_eq_some_iff.mp e).1]
  exact e
/-- a thing waited for, as what must have come ahead -/
theorem need_ok {p : Nat → Bool} {L : List Nat} (h : L <+: tl p T) {k F lag b : Nat} (hl : 1 ≤ lag) (e : need L k F lag = some b) (v : Nat) : b ≤ v ↔ k < F + cnt p (v + 1 - lag) := by
  unfold need at e
  by_cases g : k < F
  · rw [if_pos g] at e
    cases e
    exact ⟨fun _ => by omega, fun _ => Nat.zero_le _⟩
  · rw [if_neg g] at e
    obtain ⟨u, e1, rfl⟩ := Option.map_eq_some_iff.mp e
    obtain ⟨h1, h2, h3⟩ := get_tl (pre_get h e1)
    constructor
    · intro hv
      have := cnt_of h1 (show u < v + 1 - lag by omega)
      omega
    · intro hv
      obtain ⟨u', a1, a2, a3⟩ := cnt_gt (p := p) (k := k - F) (t := v + 1 - lag) (by omega)
      have : u' = u := by
        rcases Nat.lt_trichotomy u' u with z | z | z
        · have := cnt_of a2 z; omega
        · exact z
        · have := cnt_of h1 z; omega
      omega
theorem need_some {p : Nat → Bool} {L : List Nat} {k F lag v : Nat} (hl : 1 ≤ lag) (hk : k < F + cnt p (v + 1 - lag)) (hL : ∀ u, u < v → p u = true → L[cnt p u]? = some u) : ∃ b, need L k F lag = some b := by
  unfold need
  by_cases g : k < F
  · exact ⟨0, if_pos g⟩
  · rw [if_neg g]
    obtain ⟨u, a1, a2, a3⟩ := cnt_gt (p := p) (k := k - F) (t := v + 1 - lag) (by omega)
    have := hL u (by omega) a2
    rw [a3] at this
    exact ⟨u + lag, by rw [this]; rfl⟩
theorem last_ok {p : Nat → Bool} {L : List Nat} (h : L <+: tl p T) (v : Nat) : last L ≤ v ↔ L.length ≤ cnt p v := by
  unfold last
  by_cases g : 0 < L.length
  · rw [if_pos g]
    have e1 : L[L.length - 1]? = some (L.getD (L.length - 1) 0) := by
      rw [List.getD_eq_getElem?_getD, List.getElem?_eq_getElem (by omega)]
      rfl
    obtain ⟨h1, h2, h3⟩ := get_tl (pre_get h e1)
    constructor
    · intro hv
      have := cnt_of h1 (show L.getD (L.length - 1) 0 < v by omega)
      omega
    · intro hv
      obtain ⟨u', a1, a2, a3⟩ := cnt_gt (p := p) (k := L.length - 1) (t := v) (by omega)
      have : u' = L.getD (L.length - 1) 0 := by
        rcases Nat.lt_trichotomy u' (L.getD (L.length - 1) 0) with z | z | z
        · have := cnt_of a2 z; omega
        · exact z
        · have := cnt_of h1 z; omega
      omega
  · rw [if_neg g]
    exact ⟨fun _ => by omega, fun _ => Nat.zero_le _⟩
/-- what is known of the next handing on is right -/
theorem next_ok (h : OkCF c f) (P : Pre c f T A) {i : Nat} (hi : i < c.length) {v : Nat} (e : nextT c f A i = some v) (hv : v < T) : (tl (fire c f i) T)[(row A i).length]? = some v := by
  have hp := pr_lt (n := c.length) (i := i) h.n0
  have hs := su_lt (n := c.length) (i := i) h.n0
  unfold nextT at e
  split at e
  · rename_i b d e1 e2
    have n1 := need_ok (P.pre _ hp) (h.c1 hi).1 e1
    have n2 := need_ok (P.pre _ hs) (h.b1 hs).1 e2
    have n3 := last_ok (P.pre i hi)
    cases e
    generalize hw : max (max b d) (last (row A i)) = v at *
    have a1 := (n1 v).mp (by omega)
    have a2 := (n2 v).mp (by omega)
    have a3 := (n3 v).mp (by omega)
    have eq : cnt (fire c f i) v = (row A i).length := by
      by_cases g : (row A i).length < cnt (fire c f i) v
      · obtain ⟨u, b1, b2, b3⟩ := cnt_gt g
        have m := b2
        rw [fire_may h hi] at m
        obtain ⟨m1, m2⟩ := may_l m
        have q : N c f i u = (row A i).length := b3
        rw [q] at m1 m2
        have := (n1 u).mpr m1
        have := (n2 u).mpr m2
        have := (n3 u).mpr (by omega)
        omega
      · omega
    have fr : fire c f i v = true := by
      rw [fire_may h hi]
      have q : N c f i v = (row A i).length := eq
      unfold may
      rw [q]
      exact Bool.and_eq_true_iff.mpr ⟨decide_eq_true a1, decide_eq_true a2⟩
    rw [← eq]
    exact tl_get fr hv
  · cases e
theorem pre_snoc {l m : List Nat} (h : l <+: m) {v : Nat} (e : m[l.length]? = some v) : l ++ [v] <+: m := by
  obtain ⟨r, rfl⟩ := h
  rw [List.getElem?_append_right (Nat.le_refl _), Nat.sub_self] at e
  cases r with
  | nil => cases e
  | cons x r =>
    cases e
    exact ⟨r, by simp⟩
theorem row_set {A : List (List Nat)} {i j : Nat} {l : List Nat} (hi : i < A.length) : row (A.set i l) j = if i = j then l else row A j := by
  unfold row
  rw [List.getD_eq_getElem?_getD, List.getD_eq_getElem?_getD]
  by_cases e : i = j
  · subst e
    rw [if_pos rfl, List.getElem?_set_self hi]
    rfl
  · rw [if_neg e, List.getElem?_set_ne e]
theorem Pre.put (h : OkCF c f) (P : Pre c f T A) {i : Nat} (hi : i < c.length) {v : Nat} (e : nextT c f A i = some v) (hv : v < T) : Pre c f T (A.set i (row A i ++ [v])) := by
  refine ⟨by rw [List.length_set]; exact P.len, fun j hj => ?_⟩
  rw [row_set (by rw [P.len]; exact hi)]
  by_cases g : i = j
  · subst g
    rw [if_pos rfl]
    exact pre_snoc (P.pre i hi) (next_ok h P hi e hv)
  · rw [if_neg g]
    exact P.pre j hj
theorem pre_full {l m : List Nat} (h : l <+: m) (e : m.length ≤ l.length) : l = m := by
  obtain ⟨r, rfl⟩ := h
  cases r with
  | nil => rw [List.append_nil]
  | cons x r =>
    rw [List.length_append, List.length_cons] at e
    omega
/-- where nothing more is found, all is there -/
theorem all_full (h : OkCF c f) (P : Pre c f T A) (no : ∀ i, i < c.length → ∀ v, nextT c f A i = some v → T ≤ v) : ∀ i, i < c.length → row A i = tl (fire c f i) T := by
  -- by the time of the first one that is missing
  have key : ∀ u, ∀ i, i < c.length → fire c f i u = true → u < T → (row A i)[cnt (fire c f i) u]? = some u := by
    intro u
    induction u using Nat.strongRecOn with
    | _ u ih =>
      intro i hi fr hu
      have hp := pr_lt (n := c.length) (i := i) h.n0
      have hs := su_lt (n := c.length) (i := i) h.n0
      by_cases g : cnt (fire c f i) u < (row A i).length
      · have e1 : (row A i)[cnt (fire c f i) u]? = some (row A i)[cnt (fire c f i) u] := List.getElem?_eq_getElem g
        have e2 := pre_get (P.pre i hi) e1
        rw [tl_get fr hu] at e2
        rw [e1]
        exact e2.symm
      · exfalso
        have len : (row A i).length = cnt (fire c f i) u := by
          by_cases z : (row A i).length < cnt (fire c f i) u
          · obtain ⟨w, b1, b2, b3⟩ := cnt_gt z
            have := ih w b1 i hi b2 (by omega)
            rw [b3, List.getElem?_eq_none (Nat.le_refl _)] at this
            cases this
          · omega
        have m := fr
        rw [fire_may h hi] at m
        obtain ⟨m1, m2⟩ := may_l m
        have q : N c f i u = (row A i).length := len.symm
        rw [q] at m1 m2
        obtain ⟨b, e1⟩ := need_some (L := row A (pr c.length i)) (h.c1 hi).1 m1 fun w hw fw => ih w hw _ hp fw (by omega)
        obtain ⟨d, e2⟩ := need_some (L := row A (su c.length i)) (h.b1 hs).1 m2 fun w hw fw => ih w hw _ hs fw (by omega)
        have n1 := (need_ok (P.pre _ hp) (h.c1 hi).1 e1 u).mpr m1
        have n2 := (need_ok (P.pre _ hs) (h.b1 hs).1 e2 u).mpr m2
        have n3 := (last_ok (P.pre i hi) u).mpr (by omega)
        have := no i hi (max (max b d) (last (row A i))) (by unfold nextT; rw [e1, e2])
        omega
  intro i hi
  refine pre_full (P.pre i hi) ?_
  by_cases g : (row A i).length < (tl (fire c f i) T).length
  · have e1 : (tl (fire c f i) T)[(row A i).length]? = some (tl (fire c f i) T)[(row A i).length] := List.getElem?_eq_getElem g
    obtain ⟨h1, h2, h3⟩ := get_tl e1
    have := key _ i hi h1 h2
    rw [h3, List.getElem?_eq_none (Nat.le_refl _)] at this
    cases this
  · omega
theorem Pre.start (h : OkCF c f) (T : Nat) : Pre c f T (List.replicate c.length []) := by
  refine ⟨List.length_replicate, fun i hi => ?_⟩
  unfold row
  rw [List.getD_eq_getElem?_getD, List.getElem?_replicate, if_pos hi]
  exact List.nil_prefix
def total (A : List (List Nat)) : Nat := (A.map List.length).sum
theorem total_set : ∀ {A : List (List Nat)} {i : Nat} {v : Nat}, i < A.length → total (A.set i (row A i ++ [v])) = total A + 1
  | [], _, _, h => absurd h (Nat.not_lt_zero _)
  | l :: A, 0, v, _ => by
    show total ((row (l :: A) 0 ++ [v]) :: A) = _
    unfold total row
    simp
    omega
  | l :: A, i + 1, v, h => by
    have ih := total_set (A := A) (i := i) (v := v) (by simpa using h)
    show total (l :: A.set i (row A i ++ [v])) = total (l :: A) + 1
    unfold total at ih ⊢
    rw [List.map_cons, List.sum_cons, ih, List.map_cons, List.sum_cons]
    omega
theorem total_le (P : Pre c f T A) : total A ≤ c.length * T := by
  have key : ∀ B : List (List Nat), (∀ l ∈ B, l.length ≤ T) → total B ≤ B.length * T := by
    intro B
    induction B with
    | nil => intro _; exact Nat.zero_le _
    | cons l B ih =>
      intro hB
      have h1 := hB l List.mem_cons_self
      have h2 := ih fun m hm => hB m (List.mem_cons_of_mem _ hm)
      unfold total at h2 ⊢
      rw [List.map_cons, List.sum_cons, List.length_cons, Nat.add_mul, Nat.one_mul]
      omega
  rw [← P.len]
  refine key A fun l hl => ?_
  obtain ⟨i, hi, e⟩ := List.getElem_of_mem hl
  have := P.pre i (by rw [← P.len]; exact hi)
  unfold row at this
  rw [List.getD_eq_getElem?_getD, List.getElem?_eq_getElem hi] at this
  have l1 := this.length_le
  have l2 : (tl (fire c f i) T).length ≤ T := by
    unfold tl
    exact Nat.le_trans (List.length_filter_le _ _) (by rw [List.length_range]; exact Nat.le_refl _)
  rw [← e]
  exact Nat.le_trans l1 l2
end
end Hr
namespace Lw
noncomputable section
open PySem PySem.Spec PyProof.Rows L2 Pd
abbrev prg : Program := PySem.Challenge.pw_handedround_k12_whole_times_as_sums_alon
def top (i : Nat) : Stmt := prg.main.body.getD i (.Pass ⟨0, 0, 0, 0⟩)
def sfs : List Sf := [.blt "all", .blt "bool", .blt "enumerate", .blt "int", .blt "isinstance", .blt "len", .blt "max", .blt "min", .blt "range", .blt "sorted", .blt "tuple", .blt "zip", .int "MOST_PEOPLE" 12, .int "MOST_BEATS" 200, .exc "InvalidCircle", .exc "InvalidFilling", .exc "InvalidNumber"]
def G0 : List (Str × GD) := sfs.map fun s => (s.name, s.gd)
abbrev dfn (x : Str) (st : Stmt) : He.DefD := ⟨(x, none), x, x, defArgs st, defBody st, defScope st, [], []⟩
abbrev s_is_within : Stmt := top 7
abbrev N_is_within : List Str := ["value", "low", "high"]
theorem sc_is_within : FnScope N_is_within ["value", "low", "high"] (defScope s_is_within) := ⟨rfl, rfl, rfl, by decide +kernel, rfl, by decide +kernel, by decide +kernel⟩
def d_is_within : DS := sSeq (sRet (dAnd (dBlt oIsi (aCons (dVar 0) (aCons (dC (.ty "int")) aNil))) (dAnd (dNot (dBlt oIsi (aCons (dVar 0) (aCons (dC (.ty "bool")) aNil)))) (dCh oLe oLe (dVar 1) (dVar 0) (dVar 2))))) (sNil)
def f_is_within : List D → Mem → Res D := fnOf 3 d_is_within
theorem k_is_within : (cp 60).Ss ⟨N_is_within, defScope s_is_within, fun _ => true, false, 0, 0, 0, "", fun _ _ => none, G0⟩ (defBody s_is_within) = d_is_within := by kernel_rfl
def G1 : List (Str × GD) := ("is_within", .fn 3 f_is_within) :: G0
abbrev s_is_right_person : Stmt := top 8
abbrev N_is_right_person : List Str := ["value"]
theorem sc_is_right_person : FnScope N_is_right_person ["value"] (defScope s_is_right_person) := ⟨rfl, rfl, rfl, by decide +kernel, rfl, by decide +kernel, by decide +kernel⟩
def d_is_right_person : DS := sSeq (sIf (tOr (tNot (tV (dBlt oIsi (aCons (dVar 0) (aCons (dC (.ty "tuple")) aNil))))) (tV (dBin oNe (dBlt oLen (aCons (dVar 0) aNil)) (dC (.int 3))))) (sSeq (sRet (dC (.bl false))) (sNil)) (sNil)) (sSeq (sRet (dAnd (dCall f_is_within 3 (aCons (dBin oIx (dVar 0) (dC (.int 0))) (aCons (dC (.int 1)) (aCons (dC (.int 9)) aNil)))) (dAnd (dCall f_is_within 3 (aCons (dBin oIx (dVar 0) (dC (.int 1))) (aCons (dC (.int 1)) (aCons (dC (.int 9)) aNil)))) (dCall f_is_within 3 (aCons (dBin oIx (dVar 0) (dC (.int 2))) (aCons (dC (.int 1)) (aCons (dC (.int 3)) aNil))))))) (sNil))
def f_is_right_person : List D → Mem → Res D := fnOf 1 d_is_right_person
theorem k_is_right_person : (cp 60).Ss ⟨N_is_right_person, defScope s_is_right_person, fun _ => true, false, 1, 0, 0, "", fun _ _ => none, G1⟩ (defBody s_is_right_person) = d_is_right_person := by kernel_rfl
def G2 : List (Str × GD) := ("is_right_person", .fn 1 f_is_right_person) :: G1
abbrev s_are_people : Stmt := top 9
abbrev N_are_people : List Str := ["value", "low", "high", "person"]
theorem sc_are_people : FnScope N_are_people ["value", "low", "high"] (defScope s_are_people) := ⟨rfl, rfl, rfl, by decide +kernel, rfl, by decide +kernel, by decide +kernel⟩
def d_are_people : DS := sSeq (sIf (tOr (tNot (tV (dBlt oIsi (aCons (dVar 0) (aCons (dC (.ty "tuple")) aNil))))) (tNot (tV (dCh oLe oLe (dVar 1) (dBlt oLen (aCons (dVar 0) aNil)) (dVar 2))))) (sSeq (sRet (dC (.bl false))) (sNil)) (sNil)) (sSeq (sRet (dBlt oAll (aCons (dLc [3] (dSeqSrc (dVar 0)) (gNm 3) (tTrue) (dCall f_is_right_person 1 (aCons (dVar 3) aNil))) aNil))) (sNil))
def f_are_people : List D → Mem → Res D := fnOf 4 d_are_people
theorem k_are_people : (cp 60).Ss ⟨N_are_people, defScope s_are_people, fun _ => true, false, 2, 0, 0, "", fun _ _ => none, G2⟩ (defBody s_are_people) = d_are_people := by kernel_rfl
def G3 : List (Str × GD) := ("are_people", .fn 3 f_are_people) :: G2
abbrev s_is_right_circle : Stmt := top 10
abbrev N_is_right_circle : List Str := ["value"]
theorem sc_is_right_circle : FnScope N_is_right_circle ["value"] (defScope s_is_right_circle) := ⟨rfl, rfl, rfl, by decide +kernel, rfl, by decide +kernel, by decide +kernel⟩
def d_is_right_circle : DS := sSeq (sRet (dCall f_are_people 3 (aCons (dVar 0) (aCons (dC (.int 2)) (aCons (dC (.int 12)) aNil))))) (sNil)
def f_is_right_circle : List D → Mem → Res D := fnOf 1 d_is_right_circle
theorem k_is_right_circle : (cp 60).Ss ⟨N_is_right_circle, defScope s_is_right_circle, fun _ => true, false, 3, 0, 0, "", fun _ _ => none, G3⟩ (defBody s_is_right_circle) = d_is_right_circle := by kernel_rfl
def G4 : List (Str × GD) := ("is_right_circle", .fn 1 f_is_right_circle) :: G3
abbrev s_is_right_filling : Stmt := top 11
abbrev N_is_right_filling : List Str := ["circle", "value", "held", "person"]
theorem sc_is_right_filling : FnScope N_is_right_filling ["circle", "value"] (defScope s_is_right_filling) := ⟨rfl, rfl, rfl, by decide +kernel, rfl, by decide +kernel, by decide +kernel⟩
def d_is_right_filling : DS := sSeq (sIf (tOr (tNot (tV (dBlt oIsi (aCons (dVar 1) (aCons (dC (.ty "tuple")) aNil))))) (tV (dBin oNe (dBlt oLen (aCons (dVar 1) aNil)) (dBlt oLen (aCons (dVar 0) aNil))))) (sSeq (sRet (dC (.bl false))) (sNil)) (sNil)) (sSeq (sRet (dBlt oAll (aCons (dLc [2, 3] (dZip (aCons (dVar 1) (aCons (dVar 0) aNil))) (gTp 2 (gsCons (gNm 2) (gsCons (gNm 3) gsNil))) (tTrue) (dCall f_is_within 3 (aCons (dVar 2) (aCons (dC (.int 0)) (aCons (dBin oIx (dVar 3) (dC (.int 2))) aNil))))) aNil))) (sNil))
def f_is_right_filling : List D → Mem → Res D := fnOf 4 d_is_right_filling
theorem k_is_right_filling : (cp 60).Ss ⟨N_is_right_filling, defScope s_is_right_filling, fun _ => true, false, 4, 0, 0, "", fun _ _ => none, G4⟩ (defBody s_is_right_filling) = d_is_right_filling := by kernel_rfl
def G5 : List (Str × GD) := ("is_right_filling", .fn 2 f_is_right_filling) :: G4
abbrev s_need_circle : Stmt := top 12
abbrev N_need_circle : List Str := ["value"]
theorem sc_need_circle : FnScope N_need_circle ["value"] (defScope s_need_circle) := ⟨rfl, rfl, rfl, by decide +kernel, rfl, by decide +kernel, by decide +kernel⟩
def d_need_circle : DS := sSeq (sIf (tNot (tV (dCall f_is_right_circle 1 (aCons (dVar 0) aNil)))) (sSeq ((fun δ M => .exc ⟨"InvalidCircle", []⟩ δ M)) (sNil)) (sNil)) (sNil)
def f_need_circle : List D → Mem → Res D := fnOf 1 d_need_circle
theorem k_need_circle : (cp 60).Ss ⟨N_need_circle, defScope s_need_circle, fun _ => true, false, 5, 0, 0, "", fun _ _ => none, G5⟩ (defBody s_need_circle) = d_need_circle := by kernel_rfl
def G6 : List (Str × GD) := ("need_circle", .fn 1 f_need_circle) :: G5
abbrev s_need_filling : Stmt := top 13
abbrev N_need_filling : List Str := ["circle", "value"]
theorem sc_need_filling : FnScope N_need_filling ["circle", "value"] (defScope s_need_filling) := ⟨rfl, rfl, rfl, by decide +kernel, rfl, by decide +kernel, by decide +kernel⟩
def d_need_filling : DS := sSeq (sIf (tNot (tV (dCall f_is_right_filling 2 (aCons (dVar 0) (aCons (dVar 1) aNil))))) (sSeq ((fun δ M => .exc ⟨"InvalidFilling", []⟩ δ M)) (sNil)) (sNil)) (sNil)
def f_need_filling : List D → Mem → Res D := fnOf 2 d_need_filling
theorem k_need_filling : (cp 60).Ss ⟨N_need_filling, defScope s_need_filling, fun _ => true, false, 6, 0, 0, "", fun _ _ => none, G6⟩ (defBody s_need_filling) = d_need_filling := by kernel_rfl
def G7 : List (Str × GD) := ("need_filling", .fn 2 f_need_filling) :: G6
abbrev s_need_number : Stmt := top 14
abbrev N_need_number : List Str := ["value", "low", "high"]
theorem sc_need_number : FnScope N_need_number ["value", "low", "high"] (defScope s_need_number) := ⟨rfl, rfl, rfl, by decide +kernel, rfl, by decide +kernel, by decide +kernel⟩
def d_need_number : DS := sSeq (sIf (tNot (tV (dCall f_is_within 3 (aCons (dVar 0) (aCons (dVar 1) (aCons (dVar 2) aNil)))))) (sSeq ((fun δ M => .exc ⟨"InvalidNumber", []⟩ δ M)) (sNil)) (sNil)) (sNil)
def f_need_number : List D → Mem → Res D := fnOf 3 d_need_number
theorem k_need_number : (cp 60).Ss ⟨N_need_number, defScope s_need_number, fun _ => true, false, 7, 0, 0, "", fun _ _ => none, G7⟩ (defBody s_need_number) = d_need_number := by kernel_rfl
def G8 : List (Str × GD) := ("need_number", .fn 3 f_need_number) :: G7
abbrev s_first_standing : Stmt := top 17
abbrev N_first_standing : List Str := ["circle", "filling", "found", "person", "held"]
theorem sc_first_standing : FnScope N_first_standing ["circle", "filling"] (defScope s_first_standing) := ⟨rfl, rfl, rfl, by decide +kernel, rfl, by decide +kernel, by decide +kernel⟩
def d_first_standing : DS := sSeq (sAsg (dLst (aNil)) (gNm 2)) (sSeq (sFor (dZip (aCons (dVar 0) (aCons (dVar 1) aNil))) (gTp 2 (gsCons (gNm 3) (gsCons (gNm 4) gsNil))) (sSeq (sDrop (dMt isLst oApp (dVar 2) (aCons (dTup (aCons (dBin oMul (dTup (aCons (dC (.int 0)) aNil)) (dVar 4)) (aCons (dBin oMul (dTup (aCons (dC (.int 0)) aNil)) (dBin oSub (dBin oIx (dVar 3) (dC (.int 2))) (dVar 4))) aNil))) aNil))) (sNil))) (sSeq (sRet (dBlt oToTup (aCons (dVar 2) aNil))) (sNil)))
def f_first_standing : List D → Mem → Res D := fnOf 5 d_first_standing
theorem k_first_standing : (cp 60).Ss ⟨N_first_standing, defScope s_first_standing, fun _ => true, false, 8, 0, 0, "", fun _ _ => none, G8⟩ (defBody s_first_standing) = d_first_standing := by kernel_rfl
def G9 : List (Str × GD) := ("first_standing", .fn 2 f_first_standing) :: G8
abbrev s_givers_of : Stmt := top 18
abbrev N_givers_of : List Str := ["standing", "found", "index", "held", "free"]
theorem sc_givers_of : FnScope N_givers_of ["standing"] (defScope s_givers_of) := ⟨rfl, rfl, rfl, by decide +kernel, rfl, by decide +kernel, by decide +kernel⟩
def d_givers_of : DS := sSeq (sAsg (dLst (aNil)) (gNm 1)) (sSeq (sFor (dRng1 (aCons (dBlt oLen (aCons (dVar 0) aNil)) aNil)) (gNm 2) (sSeq (sPar [3, 4] (aCons (dBin oIx (dBin oIx (dVar 0) (dVar 2)) (dC (.int 0))) (aCons (dBin oIx (dBin oIx (dVar 0) (dBin oMod (dBin oAdd (dVar 2) (dC (.int 1))) (dBlt oLen (aCons (dVar 0) aNil)))) (dC (.int 1))) aNil))) (sSeq (sIf (tAnd (tV (dBin oEq (dSl (dVar 3) dNoP (dPart (dC (.int 1)))) (dTup (aCons (dC (.int 0)) aNil)))) (tV (dBin oEq (dSl (dVar 4) dNoP (dPart (dC (.int 1)))) (dTup (aCons (dC (.int 0)) aNil))))) (sSeq (sDrop (dMt isLst oApp (dVar 1) (aCons (dVar 2) aNil))) (sNil)) (sNil)) (sNil)))) (sSeq (sRet (dBlt oToTup (aCons (dVar 1) aNil))) (sNil)))
def f_givers_of : List D → Mem → Res D := fnOf 5 d_givers_of
theorem k_givers_of : (cp 60).Ss ⟨N_givers_of, defScope s_givers_of, fun _ => true, false, 9, 0, 0, "", fun _ _ => none, G9⟩ (defBody s_givers_of) = d_givers_of := by kernel_rfl
def G10 : List (Str × GD) := ("givers_of", .fn 1 f_givers_of) :: G9
abbrev s_later : Stmt := top 19
abbrev N_later : List Str := ["beats", "gone", "new", "left", "beat", "found"]
theorem sc_later : FnScope N_later ["beats", "gone", "new"] (defScope s_later) := ⟨rfl, rfl, rfl, by decide +kernel, rfl, by decide +kernel, by decide +kernel⟩
def d_later : DS := sSeq (sAsg (dIf (tV (dVar 1)) (dSl (dVar 0) (dPart (dC (.int 1))) dNoP) (dVar 0)) (gNm 3)) (sSeq (sAsg (dLc [4] (dSeqSrc (dVar 3)) (gNm 4) (tTrue) (dBlt oMax (aCons (dC (.int 0)) (aCons (dBin oSub (dVar 4) (dC (.int 1))) aNil)))) (gNm 5)) (sSeq (sRet (dBlt oToTup (aCons (dBlt oSorted (aCons (dBin oAdd (dVar 5) (dIf (tV (dBin oGt (dVar 2) (dC (.int 0)))) (dLst (aCons (dBin oSub (dVar 2) (dC (.int 1))) aNil)) (dLst (aNil)))) aNil)) aNil))) (sNil)))
def f_later : List D → Mem → Res D := fnOf 6 d_later
theorem k_later : (cp 60).Ss ⟨N_later, defScope s_later, fun _ => true, false, 10, 0, 0, "", fun _ _ => none, G10⟩ (defBody s_later) = d_later := by kernel_rfl
def G11 : List (Str × GD) := ("later", .fn 3 f_later) :: G10
abbrev s_stepped : Stmt := top 20
abbrev N_stepped : List Str := ["circle", "standing", "givers", "found", "index", "person", "gives", "takes", "held", "free"]
theorem sc_stepped : FnScope N_stepped ["circle", "standing"] (defScope s_stepped) := ⟨rfl, rfl, rfl, by decide +kernel, rfl, by decide +kernel, by decide +kernel⟩
def d_stepped : DS := sSeq (sAsg (dCall f_givers_of 1 (aCons (dVar 1) aNil)) (gNm 2)) (sSeq (sAsg (dLst (aNil)) (gNm 3)) (sSeq (sFor (dEnumL (aCons (dVar 0) aNil)) (gTp 2 (gsCons (gNm 4) (gsCons (gNm 5) gsNil))) (sSeq (sPar [6, 7] (aCons (dBin oIn (dVar 4) (dVar 2)) (aCons (dBin oIn (dBin oMod (dBin oSub (dVar 4) (dC (.int 1))) (dBlt oLen (aCons (dVar 0) aNil))) (dVar 2)) aNil))) (sSeq (sAsg (dCall f_later 3 (aCons (dBin oIx (dBin oIx (dVar 1) (dVar 4)) (dC (.int 0))) (aCons (dVar 6) (aCons (dIf (tV (dVar 7)) (dBin oIx (dVar 5) (dC (.int 0))) (dC (.int 0))) aNil)))) (gNm 8)) (sSeq (sAsg (dCall f_later 3 (aCons (dBin oIx (dBin oIx (dVar 1) (dVar 4)) (dC (.int 1))) (aCons (dVar 7) (aCons (dIf (tV (dVar 6)) (dBin oIx (dVar 5) (dC (.int 1))) (dC (.int 0))) aNil)))) (gNm 9)) (sSeq (sDrop (dMt isLst oApp (dVar 3) (aCons (dTup (aCons (dVar 8) (aCons (dVar 9) aNil))) aNil))) (sNil)))))) (sSeq (sRet (dTup (aCons (dBlt oToTup (aCons (dVar 3) aNil)) (aCons (dVar 2) aNil)))) (sNil))))
def f_stepped : List D → Mem → Res D := fnOf 10 d_stepped
theorem k_stepped : (cp 60).Ss ⟨N_stepped, defScope s_stepped, fun _ => true, false, 11, 0, 0, "", fun _ _ => none, G11⟩ (defBody s_stepped) = d_stepped := by kernel_rfl
def G12 : List (Str × GD) := ("stepped", .fn 2 f_stepped) :: G11
abbrev s_passes : Stmt := top 21
abbrev N_passes : List Str := ["circle", "filling", "beats", "standing", "found", "turn", "some"]
theorem sc_passes : FnScope N_passes ["circle", "filling", "beats"] (defScope s_passes) := ⟨rfl, rfl, rfl, by decide +kernel, rfl, by decide +kernel, by decide +kernel⟩
def d_passes : DS := sSeq (sDrop (dCall f_need_circle 1 (aCons (dVar 0) aNil))) (sSeq (sDrop (dCall f_need_filling 2 (aCons (dVar 0) (aCons (dVar 1) aNil)))) (sSeq (sDrop (dCall f_need_number 3 (aCons (dVar 2) (aCons (dC (.int 0)) (aCons (dC (.int 200)) aNil))))) (sSeq (sPar [3, 4] (aCons (dCall f_first_standing 2 (aCons (dVar 0) (aCons (dVar 1) aNil))) (aCons (dLst (aNil)) aNil))) (sSeq (sFor (dRng1 (aCons (dVar 2) aNil)) (gNm 5) (sSeq (sAsg (dCall f_stepped 2 (aCons (dVar 0) (aCons (dVar 3) aNil))) (gTp 2 (gsCons (gNm 3) (gsCons (gNm 6) gsNil)))) (sSeq (sDrop (dMt isLst oApp (dVar 4) (aCons (dVar 6) aNil))) (sNil)))) (sSeq (sRet (dVar 4)) (sNil))))))
def f_passes : List D → Mem → Res D := fnOf 7 d_passes
theorem k_passes : (cp 60).Ss ⟨N_passes, defScope s_passes, fun _ => true, false, 12, 0, 0, "", fun _ _ => none, G12⟩ (defBody s_passes) = d_passes := by kernel_rfl
def G13 : List (Str × GD) := ("passes", .fn 3 f_passes) :: G12
abbrev s__law_source : Stmt := top 23
abbrev N__law_source : List Str := ["_law_script", "_law_k", "_law_number", "_law_start"]
theorem sc__law_source : FnScope N__law_source ["_law_script", "_law_k"] (defScope s__law_source) := ⟨rfl, rfl, rfl, by decide +kernel, rfl, by decide +kernel, by decide +kernel⟩
def d__law_source : DS := sSeq (sAsg (dC (.int 0)) (gNm 2)) (sSeq (sIf (tV (dBin oGt (dBlt oLen (aCons (dVar 0) aNil)) (dVar 1))) (sSeq (sAsg (dBlt oToInt (aCons (dBin oIx (dVar 0) (dVar 1)) aNil)) (gNm 2)) (sNil)) (sNil)) (sSeq (sAsg (dBin oMod (dBin oAdd (dBin oAdd (dBin oMul (dVar 2) (dC (.int 16807))) (dBin oMul (dC (.int 60919)) (dVar 1))) (dC (.int 31))) (dC (.int 2147481173))) (gNm 3)) (sSeq (sAsg (dBin oAdd (dBin oAdd (dBin oMod (dBin oMul (dVar 3) (dVar 3)) (dC (.int 2147481151))) (dBin oMul (dC (.int 2)) (dVar 1))) (dC (.int 5))) (gNm 3)) (sSeq (sRet (dLst (aCons (dIf (tV (dBin oGe (dVar 2) (dBin oPow (dC (.int 10)) (dC (.int 18))))) (dVar 2) (dC (.int 0))) (aCons (dVar 3) aNil)))) (sNil)))))
def f__law_source : List D → Mem → Res D := fnOf 4 d__law_source
theorem k__law_source : (cp 60).Ss ⟨N__law_source, defScope s__law_source, fun _ => true, false, 13, 0, 0, "", fun _ _ => none, G13⟩ (defBody s__law_source) = d__law_source := by kernel_rfl
def G14 : List (Str × GD) := ("_law_source", .fn 2 f__law_source) :: G13
abbrev s__law_pick : Stmt := top 24
abbrev N__law_pick : List Str := ["_law_source_here", "_law_many", "_law_found"]
theorem sc__law_pick : FnScope N__law_pick ["_law_source_here", "_law_many"] (defScope s__law_pick) := ⟨rfl, rfl, rfl, by decide +kernel, rfl, by decide +kernel, by decide +kernel⟩
def d__law_pick : DS := sSeq (sIf (tV (dBin oGt (dBin oIx (dVar 0) (dC (.int 0))) (dC (.int 0)))) (sSeq (sAsg (dBin oMod (dBlt oToInt (aCons (dBin oIx (dVar 0) (dC (.int 0))) aNil)) (dVar 1)) (gNm 2)) (sSeq (sAsg (dBin oFdiv (dBlt oToInt (aCons (dBin oIx (dVar 0) (dC (.int 0))) aNil)) (dVar 1)) (gSb (dVar 0) (dC (.int 0)))) (sSeq (sRet (dVar 2)) (sNil)))) (sNil)) (sSeq (sAsg (dBin oMod (dBlt oToInt (aCons (dBin oAdd (dBin oMul (dBin oIx (dVar 0) (dC (.int 1))) (dC (.int 44497))) (dC (.int 9973))) aNil)) (dC (.int 2147483647))) (gSb (dVar 0) (dC (.int 1)))) (sSeq (sRet (dBin oMod (dBin oFdiv (dBin oMod (dBlt oToInt (aCons (dBin oMul (dBin oIx (dVar 0) (dC (.int 1))) (dBin oIx (dVar 0) (dC (.int 1)))) aNil)) (dC (.int 2147483399))) (dC (.int 11))) (dVar 1))) (sNil)))
def f__law_pick : List D → Mem → Res D := fnOf 3 d__law_pick
theorem k__law_pick : (cp 60).Ss ⟨N__law_pick, defScope s__law_pick, fun _ => true, false, 14, 0, 0, "", fun _ _ => none, G14⟩ (defBody s__law_pick) = d__law_pick := by kernel_rfl
def G15 : List (Str × GD) := ("_law_pick", .fn 2 f__law_pick) :: G14
abbrev s__law_chosen : Stmt := top 25
abbrev N__law_chosen : List Str := ["_law_source_here", "_law_things"]
theorem sc__law_chosen : FnScope N__law_chosen ["_law_source_here", "_law_things"] (defScope s__law_chosen) := ⟨rfl, rfl, rfl, by decide +kernel, rfl, by decide +kernel, by decide +kernel⟩
def d__law_chosen : DS := sSeq (sRet (dBin oIx (dVar 1) (dCall f__law_pick 2 (aCons (dVar 0) (aCons (dBlt oLen (aCons (dVar 1) aNil)) aNil))))) (sNil)
def f__law_chosen : List D → Mem → Res D := fnOf 2 d__law_chosen
theorem k__law_chosen : (cp 60).Ss ⟨N__law_chosen, defScope s__law_chosen, fun _ => true, false, 15, 0, 0, "", fun _ _ => none, G15⟩ (defBody s__law_chosen) = d__law_chosen := by kernel_rfl
def G16 : List (Str × GD) := ("_law_chosen", .fn 2 f__law_chosen) :: G15
abbrev s__law_drawn_person : Stmt := top 26
abbrev N__law_drawn_person : List Str := ["_law_source_here", "_law_most", "_law_wide", "_law_carry", "_law_back"]
theorem sc__law_drawn_person : FnScope N__law_drawn_person ["_law_source_here", "_law_most"] (defScope s__law_drawn_person) := ⟨rfl, rfl, rfl, by decide +kernel, rfl, by decide +kernel, by decide +kernel⟩
def d__law_drawn_person : DS := sSeq (sAsg (dCall f__law_chosen 2 (aCons (dVar 0) (aCons (dLst (aCons (dC (.int 2)) (aCons (dC (.int 3)) (aCons (dVar 1) aNil)))) aNil))) (gNm 2)) (sSeq (sPar [3, 4] (aCons (dBin oAdd (dC (.int 1)) (dCall f__law_pick 2 (aCons (dVar 0) (aCons (dVar 2) aNil)))) (aCons (dBin oAdd (dC (.int 1)) (dCall f__law_pick 2 (aCons (dVar 0) (aCons (dVar 2) aNil)))) aNil))) (sSeq (sRet (dTup (aCons (dVar 3) (aCons (dVar 4) (aCons (dCall f__law_chosen 2 (aCons (dVar 0) (aCons (dLst (aCons (dC (.int 1)) (aCons (dC (.int 1)) (aCons (dC (.int 2)) (aCons (dC (.int 3)) aNil))))) aNil))) aNil))))) (sNil)))
def f__law_drawn_person : List D → Mem → Res D := fnOf 5 d__law_drawn_person
theorem k__law_drawn_person : (cp 60).Ss ⟨N__law_drawn_person, defScope s__law_drawn_person, fun _ => true, false, 16, 0, 0, "", fun _ _ => none, G16⟩ (defBody s__law_drawn_person) = d__law_drawn_person := by kernel_rfl
def G17 : List (Str × GD) := ("_law_drawn_person", .fn 2 f__law_drawn_person) :: G16
abbrev s__law_drawn_circle : Stmt := top 27
abbrev N__law_drawn_circle : List Str := ["_law_source_here", "_law_many", "_law_most", "_law_size", "_law_found", "_law_one", "_law_alike_so", "_law_turn"]
theorem sc__law_drawn_circle : FnScope N__law_drawn_circle ["_law_source_here", "_law_many", "_law_most"] (defScope s__law_drawn_circle) := ⟨rfl, rfl, rfl, by decide +kernel, rfl, by decide +kernel, by decide +kernel⟩
def d__law_drawn_circle : DS := sSeq (sPar [3, 4] (aCons (dBin oAdd (dC (.int 2)) (dCall f__law_pick 2 (aCons (dVar 0) (aCons (dBin oSub (dVar 1) (dC (.int 1))) aNil)))) (aCons (dTup (aNil)) aNil))) (sSeq (sAsg (dCall f__law_drawn_person 2 (aCons (dVar 0) (aCons (dVar 2) aNil))) (gNm 5)) (sSeq (sAsg (dBin oEq (dCall f__law_pick 2 (aCons (dVar 0) (aCons (dC (.int 4)) aNil))) (dC (.int 0))) (gNm 6)) (sSeq (sFor (dRng1 (aCons (dVar 3) aNil)) (gNm 7) (sSeq (sAsg (dBin oAdd (dVar 4) (dTup (aCons (dIf (tV (dVar 6)) (dVar 5) (dCall f__law_drawn_person 2 (aCons (dVar 0) (aCons (dVar 2) aNil)))) aNil))) (gNm 4)) (sNil))) (sSeq (sRet (dVar 4)) (sNil)))))
def f__law_drawn_circle : List D → Mem → Res D := fnOf 8 d__law_drawn_circle
theorem k__law_drawn_circle : (cp 60).Ss ⟨N__law_drawn_circle, defScope s__law_drawn_circle, fun _ => true, false, 17, 0, 0, "", fun _ _ => none, G17⟩ (defBody s__law_drawn_circle) = d__law_drawn_circle := by kernel_rfl
def G18 : List (Str × GD) := ("_law_drawn_circle", .fn 3 f__law_drawn_circle) :: G17
abbrev s__law_drawn_filling : Stmt := top 28
abbrev N__law_drawn_filling : List Str := ["_law_source_here", "_law_circle", "_law_person"]
theorem sc__law_drawn_filling : FnScope N__law_drawn_filling ["_law_source_here", "_law_circle"] (defScope s__law_drawn_filling) := ⟨rfl, rfl, rfl, by decide +kernel, rfl, by decide +kernel, by decide +kernel⟩
def d__law_drawn_filling : DS := sSeq (sRet (dBlt oToTup (aCons (dLc [2] (dSeqSrc (dVar 1)) (gNm 2) (tTrue) (dCall f__law_pick 2 (aCons (dVar 0) (aCons (dBin oAdd (dBin oIx (dVar 2) (dC (.int 2))) (dC (.int 1))) aNil)))) aNil))) (sNil)
def f__law_drawn_filling : List D → Mem → Res D := fnOf 3 d__law_drawn_filling
theorem k__law_drawn_filling : (cp 60).Ss ⟨N__law_drawn_filling, defScope s__law_drawn_filling, fun _ => true, false, 18, 0, 0, "", fun _ _ => none, G18⟩ (defBody s__law_drawn_filling) = d__law_drawn_filling := by kernel_rfl
def G19 : List (Str × GD) := ("_law_drawn_filling", .fn 2 f__law_drawn_filling) :: G18
abbrev s__law_need : Stmt := top 29
abbrev N__law_need : List Str := ["_law_times_so", "_law_at", "_law_lag"]
theorem sc__law_need : FnScope N__law_need ["_law_times_so", "_law_at", "_law_lag"] (defScope s__law_need) := ⟨rfl, rfl, rfl, by decide +kernel, rfl, by decide +kernel, by decide +kernel⟩
def d__law_need : DS := sSeq (sIf (tV (dBin oLt (dVar 1) (dC (.int 0)))) (sSeq (sRet (dC (.int 0))) (sNil)) (sNil)) (sSeq (sRet (dIf (tV (dBin oLt (dVar 1) (dBlt oLen (aCons (dVar 0) aNil)))) (dBin oAdd (dBin oIx (dVar 0) (dVar 1)) (dVar 2)) (dC .non))) (sNil))
def f__law_need : List D → Mem → Res D := fnOf 3 d__law_need
theorem k__law_need : (cp 60).Ss ⟨N__law_need, defScope s__law_need, fun _ => true, false, 19, 0, 0, "", fun _ _ => none, G19⟩ (defBody s__law_need) = d__law_need := by kernel_rfl
def G20 : List (Str × GD) := ("_law_need", .fn 3 f__law_need) :: G19
abbrev s__law_times : Stmt := top 30
abbrev N__law_times : List Str := ["_law_circle", "_law_filling", "_law_beats", "_law_size", "_law_person", "_law_found", "_law_again", "_law_index", "_law_there", "_law_number", "_law_bucket", "_law_free", "_law_hand", "_law_last"]
theorem sc__law_times : FnScope N__law_times ["_law_circle", "_law_filling", "_law_beats"] (defScope s__law_times) := ⟨rfl, rfl, rfl, by decide +kernel, rfl, by decide +kernel, by decide +kernel⟩
def d__law_times : DS := sSeq (sAsg (dBlt oLen (aCons (dVar 0) aNil)) (gNm 3)) (sSeq (sPar [5, 6] (aCons (dLc [4] (dSeqSrc (dVar 0)) (gNm 4) (tTrue) (dLst (aNil))) (aCons (dC (.bl true)) aNil))) (sSeq (sWh (tV (dVar 6)) (sSeq (sAsg (dC (.bl false)) (gNm 6)) (sSeq (sFor (dRng1 (aCons (dVar 3) aNil)) (gNm 7) (sSeq (sAsg (dBin oMod (dBin oAdd (dVar 7) (dC (.int 1))) (dVar 3)) (gNm 8)) (sSeq (sAsg (dBlt oLen (aCons (dBin oIx (dVar 5) (dVar 7)) aNil)) (gNm 9)) (sSeq (sAsg (dCall f__law_need 3 (aCons (dBin oIx (dVar 5) (dBin oSub (dVar 7) (dC (.int 1)))) (aCons (dBin oSub (dVar 9) (dBin oIx (dVar 1) (dVar 7))) (aCons (dBin oIx (dBin oIx (dVar 0) (dVar 7)) (dC (.int 0))) aNil)))) (gNm 10)) (sSeq (sAsg (dBin oSub (dBin oIx (dBin oIx (dVar 0) (dVar 8)) (dC (.int 2))) (dBin oIx (dVar 1) (dVar 8))) (gNm 11)) (sSeq (sAsg (dCall f__law_need 3 (aCons (dBin oIx (dVar 5) (dVar 8)) (aCons (dBin oSub (dVar 9) (dVar 11)) (aCons (dBin oIx (dBin oIx (dVar 0) (dVar 8)) (dC (.int 1))) aNil)))) (gNm 12)) (sSeq (sAsg (dIf (tV (dBin oGt (dVar 9) (dC (.int 0)))) (dBin oAdd (dBin oIx (dBin oIx (dVar 5) (dVar 7)) (dUn oNeg (dC (.int 1)))) (dC (.int 1))) (dC (.int 0))) (gNm 13)) (sSeq (sIf (tAnd (tV (dBin oNotN (dVar 10) (dC .non))) (tAnd (tV (dBin oNotN (dVar 12) (dC .non))) (tV (dBin oLt (dBlt oMax (aCons (dVar 10) (aCons (dVar 12) (aCons (dVar 13) aNil)))) (dVar 2))))) (sSeq (sDrop (dMt isLst oApp (dBin oIx (dVar 5) (dVar 7)) (aCons (dBlt oMax (aCons (dVar 10) (aCons (dVar 12) (aCons (dVar 13) aNil)))) aNil))) (sSeq (sAsg (dC (.bl true)) (gNm 6)) (sNil))) (sNil)) (sNil))))))))) (sNil)))) (sSeq (sRet (dVar 5)) (sNil))))
def f__law_times : List D → Mem → Res D := fnOf 14 d__law_times
theorem k__law_times : (cp 60).Ss ⟨N__law_times, defScope s__law_times, fun _ => true, false, 20, 0, 0, "", fun _ _ => none, G20⟩ (defBody s__law_times) = d__law_times := by kernel_rfl
def G21 : List (Str × GD) := ("_law_times", .fn 3 f__law_times) :: G20
abbrev s__law_quicker : Stmt := top 31
abbrev N__law_quicker : List Str := ["_law_source_here", "_law_circle", "_law_index", "_law_way", "_law_carry", "_law_back", "_law_hands", "_law_some"]
theorem sc__law_quicker : FnScope N__law_quicker ["_law_source_here", "_law_circle"] (defScope s__law_quicker) := ⟨rfl, rfl, rfl, by decide +kernel, rfl, by decide +kernel, by decide +kernel⟩
def d__law_quicker : DS := sSeq (sPar [2, 3] (aCons (dCall f__law_pick 2 (aCons (dVar 0) (aCons (dBlt oLen (aCons (dVar 1) aNil)) aNil))) (aCons (dCall f__law_pick 2 (aCons (dVar 0) (aCons (dC (.int 3)) aNil))) aNil))) (sSeq (sAsg (dBin oIx (dVar 1) (dVar 2)) (gTp 3 (gsCons (gNm 4) (gsCons (gNm 5) (gsCons (gNm 6) gsNil))))) (sSeq (sAsg (dLst (aCons (dTup (aCons (dBlt oMax (aCons (dC (.int 1)) (aCons (dBin oSub (dVar 4) (dC (.int 1))) aNil))) (aCons (dVar 5) (aCons (dVar 6) aNil)))) (aCons (dTup (aCons (dVar 4) (aCons (dBlt oMax (aCons (dC (.int 1)) (aCons (dBin oSub (dVar 5) (dC (.int 1))) aNil))) (aCons (dVar 6) aNil)))) aNil))) (gNm 7)) (sSeq (sDrop (dMt isLst oApp (dVar 7) (aCons (dTup (aCons (dVar 4) (aCons (dVar 5) (aCons (dBlt oMin (aCons (dC (.int 3)) (aCons (dBin oAdd (dVar 6) (dC (.int 1))) aNil))) aNil)))) aNil))) (sSeq (sRet (dBin oAdd (dBin oAdd (dSl (dVar 1) dNoP (dPart (dVar 2))) (dTup (aCons (dBin oIx (dVar 7) (dVar 3)) aNil))) (dSl (dVar 1) (dPart (dBin oAdd (dVar 2) (dC (.int 1)))) dNoP))) (sNil)))))
def f__law_quicker : List D → Mem → Res D := fnOf 8 d__law_quicker
theorem k__law_quicker : (cp 60).Ss ⟨N__law_quicker, defScope s__law_quicker, fun _ => true, false, 21, 0, 0, "", fun _ _ => none, G21⟩ (defBody s__law_quicker) = d__law_quicker := by kernel_rfl
def G22 : List (Str × GD) := ("_law_quicker", .fn 2 f__law_quicker) :: G21
abbrev s_law : Stmt := top 32
abbrev N_law : List Str := ["_law_script", "_law_k", "_law_source_here", "_law_turn", "_law_circle", "_law_filling", "_law_beats", "_law_told", "_law_times_so", "_law_index", "_law_time", "_law_other", "_law_mine", "_law_yours", "_law_two"]
theorem sc_law : FnScope N_law ["_law_script"] (defScope s_law) := ⟨rfl, rfl, rfl, by decide +kernel, rfl, by decide +kernel, by decide +kernel⟩
def d_law : DS := sSeq (sFor (dRng1 (aCons (dBlt oMax (aCons (dC (.int 5)) (aCons (dBlt oMin (aCons (dC (.int 14)) (aCons (dBlt oLen (aCons (dVar 0) aNil)) aNil))) aNil))) aNil)) (gNm 1) (sSeq (sAsg (dCall f__law_source 2 (aCons (dVar 0) (aCons (dVar 1) aNil))) (gNm 2)) (sSeq (sFor (dRng1 (aCons (dC (.int 3)) aNil)) (gNm 3) (sSeq (sAsg (dCall f__law_drawn_circle 3 (aCons (dVar 2) (aCons (dC (.int 7)) (aCons (dC (.int 9)) aNil)))) (gNm 4)) (sSeq (sPar [5, 6] (aCons (dCall f__law_drawn_filling 2 (aCons (dVar 2) (aCons (dVar 4) aNil))) (aCons (dCall f__law_chosen 2 (aCons (dVar 2) (aCons (dLst (aCons (dC (.int 9)) (aCons (dC (.int 30)) (aCons (dC (.int 60)) aNil)))) aNil))) aNil))) (sSeq (sAsg (dCall f_passes 3 (aCons (dVar 4) (aCons (dVar 5) (aCons (dVar 6) aNil)))) (gNm 7)) (sSeq (sAsg (dCall f__law_times 3 (aCons (dVar 4) (aCons (dVar 5) (aCons (dVar 6) aNil)))) (gNm 8)) (sSeq (sFor (dRng1 (aCons (dBlt oLen (aCons (dVar 4) aNil)) aNil)) (gNm 9) (sSeq (sIf (tV (dBin oNe (dLc [10] (dRng1 (aCons (dVar 6) aNil)) (gNm 10) (tV (dBin oIn (dVar 9) (dBin oIx (dVar 7) (dVar 10)))) (dVar 10)) (dBin oIx (dVar 8) (dVar 9)))) (sSeq (sRet (dC (.bl false))) (sNil)) (sNil)) (sNil))) (sSeq (sAsg (dCall f_passes 3 (aCons (dCall f__law_quicker 2 (aCons (dVar 2) (aCons (dVar 4) aNil))) (aCons (dVar 5) (aCons (dVar 6) aNil)))) (gNm 11)) (sSeq (sFor (dRng1 (aCons (dBlt oLen (aCons (dVar 4) aNil)) aNil)) (gNm 9) (sSeq (sPar [12, 13] (aCons (dC (.int 0)) (aCons (dC (.int 0)) aNil))) (sSeq (sFor (dRng1 (aCons (dVar 6) aNil)) (gNm 10) (sSeq (sAsg (dBin oAdd (dVar 12) (dBlt oToInt (aCons (dBin oIn (dVar 9) (dBin oIx (dVar 7) (dVar 10))) aNil))) (gNm 12)) (sSeq (sAsg (dBin oAdd (dVar 13) (dBlt oToInt (aCons (dBin oIn (dVar 9) (dBin oIx (dVar 11) (dVar 10))) aNil))) (gNm 13)) (sSeq (sIf (tV (dBin oLt (dVar 13) (dVar 12))) (sSeq (sRet (dC (.bl false))) (sNil)) (sNil)) (sNil))))) (sNil)))) (sNil))))))))) (sNil)))) (sSeq (sAsg (dTup (aCons (dTup (aCons (dC (.int 1)) (aCons (dC (.int 1)) (aCons (dC (.int 1)) aNil)))) (aCons (dTup (aCons (dC (.int 9)) (aCons (dC (.int 9)) (aCons (dC (.int 3)) aNil)))) aNil))) (gNm 14)) (sSeq (sRet (dBin oEq (dCall f_passes 3 (aCons (dVar 14) (aCons (dTup (aCons (dC (.int 1)) (aCons (dC (.int 0)) aNil))) (aCons (dC (.int 12)) aNil)))) (dBin oAdd (dBin oAdd (dLst (aCons (dTup (aCons (dC (.int 0)) aNil)) aNil)) (dBin oMul (dLst (aCons (dTup (aNil)) aNil)) (dC (.int 8)))) (dLst (aCons (dTup (aCons (dC (.int 1)) aNil)) (aCons (dTup (aCons (dC (.int 0)) aNil)) (aCons (dTup (aNil)) aNil))))))) (sNil)))
def f_law : List D → Mem → Res D := fnOf 15 d_law
theorem k_law : (cp 60).Ss ⟨N_law, defScope s_law, fun _ => true, false, 22, 0, 0, "", fun _ _ => none, G22⟩ (defBody s_law) = d_law := by kernel_rfl
def tf : List He.Defn := []
def fnl : List He.DefD := [dfn "is_within" s_is_within, dfn "is_right_person" s_is_right_person, dfn "are_people" s_are_people, dfn "is_right_circle" s_is_right_circle, dfn "is_right_filling" s_is_right_filling, dfn "need_circle" s_need_circle, dfn "need_filling" s_need_filling, dfn "need_number" s_need_number, dfn "first_standing" s_first_standing, dfn "givers_of" s_givers_of, dfn "later" s_later, dfn "stepped" s_stepped, dfn "passes" s_passes, dfn "_law_source" s__law_source, dfn "_law_pick" s__law_pick, dfn "_law_chosen" s__law_chosen, dfn "_law_drawn_person" s__law_drawn_person, dfn "_law_drawn_circle" s__law_drawn_circle, dfn "_law_drawn_filling" s__law_drawn_filling, dfn "_law_need" s__law_need, dfn "_law_times" s__law_times, dfn "_law_quicker" s__law_quicker, dfn "law" s_law]
def fa : List He.Fa := sfs.flatMap Sf.fa ++ [.glo "is_within", .glo "is_right_person", .glo "are_people", .glo "is_right_circle", .glo "is_right_filling", .glo "need_circle", .glo "need_filling", .glo "need_number", .glo "first_standing", .glo "givers_of", .glo "later", .glo "stepped", .glo "passes", .glo "_law_source", .glo "_law_pick", .glo "_law_chosen", .glo "_law_drawn_person", .glo "_law_drawn_circle", .glo "_law_drawn_filling", .glo "_law_need", .glo "_law_times", .glo "_law_quicker", .glo "law"]
def ex (K : PySem.W.Frag) : Bool := noLists K && (apartT tf K)
theorem ex_lists {K : PySem.W.Frag} (h : ex K = true) : noLists K = true := (Bool.and_eq_true_iff.mp h).1
theorem ex_apart {K : PySem.W.Frag} (h : ex K = true) : apartT tf K = true := (Bool.and_eq_true_iff.mp h).2
end
end Lw
namespace Lw
open PySem Pd
theorem is_within_int (i lo hi : Int) (M : Mem) : f_is_within [.int i, .int lo, .int hi] M = .ok (.bl (decide (lo ≤ i) && decide (i ≤ hi))) M := by
  unfold f_is_within fnOf
  by_cases h1 : lo ≤ i <;> by_cases h2 : i ≤ hi <;> simp [d_is_within, h1, h2]
theorem is_within_no {d : D} {t : String} (lo hi : Int) (M : Mem) (ht : tyOf M d = some t) (h : t = "NoneType" ∨ t = "bool" ∨ t = "str" ∨ t = "tuple" ∨ t = "list") : f_is_within [d, .int lo, .int hi] M = .ok (.bl false) M := by
  unfold f_is_within fnOf
  rcases h with h | h | h | h | h <;> subst h <;> simp [d_is_within, oIsi, ht, isiT]
abbrev P3 := Int × Int × Int
def ep (p : P3) : D := .tup [.int p.1, .int p.2.1, .int p.2.2]
def ec (c : List P3) : D := .tup (c.map ep)
def okP (p : P3) : Prop := (1 ≤ p.1 ∧ p.1 ≤ 9) ∧ (1 ≤ p.2.1 ∧ p.2.1 ≤ 9) ∧ 1 ≤ p.2.2 ∧ p.2.2 ≤ 3
instance (p : P3) : Decidable (okP p) := by unfold okP; exact inferInstance
def okC (c : List P3) : Prop := (2 ≤ c.length ∧ c.length ≤ 12) ∧ ∀ p ∈ c, okP p
theorem below_ep (n : Nat) (p : P3) : belowD n (ep p) = true := rfl
theorem below_map {α : Type} {n : Nat} {f : α → D} (h : ∀ a, belowD n (f a) = true) (l : List α) : belowL n (l.map f) = true := by
  induction l with
  | nil => rfl
  | cons a l ih => rw [List.map_cons]; unfold belowL; rw [h a, ih]; rfl
theorem is_right_person_ep (p : P3) (M : Mem) : f_is_right_person [ep p] M = .ok (.bl (decide (okP p))) M := by
  unfold f_is_right_person fnOf
  by_cases h1 : 1 ≤ p.1 <;> by_cases h2 : p.1 ≤ 9 <;> by_cases h3 : 1 ≤ p.2.1 <;> by_cases h4 : p.2.1 ≤ 9 <;> by_cases h5 : 1 ≤ p.2.2 <;> by_cases h6 : p.2.2 ≤ 3 <;>
    simp [d_is_right_person, ep, is_within_int, okP, h1, h2, h3, h4, h5, h6]
theorem is_right_person_ok {p : P3} (h : okP p) (M : Mem) : f_is_right_person [ep p] M = .ok (.bl true) M := by
  rw [is_right_person_ep, decide_eq_true h]
@[simp] theorem gc_ec {M G : Mem} {c : List P3} : gcR M (.ok (ec c) (M ++ G)) = .ok (ec c) M := gc_val (below_map (fun _ => rfl) _)
@[simp] theorem gc_ec0 {M : Mem} {c : List P3} : gcR M (.ok (ec c) M) = .ok (ec c) M := gc_val0 (below_map (fun _ => rfl) _)
theorem need_number_ok {i lo hi : Int} (h1 : lo ≤ i) (h2 : i ≤ hi) (M : Mem) : f_need_number [.int i, .int lo, .int hi] M = .ok .non M := by
  unfold f_need_number fnOf
  simp [d_need_number, is_within_int, h1, h2]
theorem need_number_no {d : D} {lo hi : Int} (M : Mem) (h : f_is_within [d, .int lo, .int hi] M = .ok (.bl false) M) : f_need_number [d, .int lo, .int hi] M = .exc ⟨"InvalidNumber", []⟩ M := by
  unfold f_need_number fnOf
  simp [d_need_number, h]
def handsI (c : List P3) : Int := (c.map (·.2.2)).sum
def carriesI (c : List P3) : Int := (c.map (·.1)).sum
def backsI (c : List P3) : Int := (c.map (·.2.1)).sum
abbrev few (c : List P3) : Prop := c.length ≤ 100000
theorem few_sz {c : List P3} (h : few c) : c.length ≤ sizeLine := Nat.le_trans h (by decide)
/-- a comprehension over people -/
theorem lc1_ok {c : List P3} {i : Nat} {f : P3 → D} {te : EF D} {δ : DEnv} {M M1 : Mem} {src : EF Src} (hc : few c) (hs : src δ M = .ok (.items (c.map ep)) M1)
    (h : ∀ p ∈ c, ∀ acc, te ((wipeD δ [i]).set i (some (ep p))) (M1 ++ [MO.lst acc]) = .ok (f p) (M1 ++ [MO.lst acc])) :
    dLc [i] src (gNm i) tTrue te δ M = .ok (.ref M1.length) (M1 ++ [MO.lst (c.map f)]) := by
  rw [dLc_map (l := c.map ep) (M1 := M1) (fun d => match d with | .tup [.int x, .int y, .int z] => f (x, y, z) | _ => .non) hs (by simpa using few_sz hc) fun d hd acc => ?_]
  · simp [Function.comp_def, ep]
  · obtain ⟨p, hp, rfl⟩ := List.mem_map.mp hd
    exact ⟨_, rfl, by simpa [ep] using h p hp acc⟩
theorem lc3_ok {c : List P3} {i j k : Nat} {f : P3 → D} {te : EF D} {δ : DEnv} {M M1 : Mem} {src : EF Src} (hc : few c) (hs : src δ M = .ok (.items (c.map ep)) M1)
    (h : ∀ p ∈ c, ∀ acc, te ((((wipeD δ [i, j, k]).set i (some (.int p.1))).set j (some (.int p.2.1))).set k (some (.int p.2.2))) (M1 ++ [MO.lst acc]) = .ok (f p) (M1 ++ [MO.lst acc])) :
    dLc [i, j, k] src (gTp 3 (gsCons (gNm i) (gsCons (gNm j) (gsCons (gNm k) gsNil)))) tTrue te δ M = .ok (.ref M1.length) (M1 ++ [MO.lst (c.map f)]) := by
  rw [dLc_map (l := c.map ep) (M1 := M1) (fun d => match d with | .tup [.int x, .int y, .int z] => f (x, y, z) | _ => .non) hs (by simpa using few_sz hc) fun d hd acc => ?_]
  · simp [Function.comp_def, ep]
  · obtain ⟨p, hp, rfl⟩ := List.mem_map.mp hd
    exact ⟨_, rfl, by simpa [ep] using h p hp acc⟩
end Lw
namespace Lw
open PySem Pd
/-! circles: the checks -/
theorem are_people_ok {c : List P3} {lo hi : Int} (h : ∀ p ∈ c, okP p) (h1 : lo ≤ c.length) (h2 : (c.length : Int) ≤ hi) (hc : few c) (M : Mem) : f_are_people [ec c, .int lo, .int hi] M = .ok (.bl true) M := by
  unfold f_are_people
  refine fn_of ?_
  simp [d_are_people, ec, h1, h2]
  have lc := fun (te : EF D) => lc1_ok (c := c) (i := 3) (f := fun _ => .bl true) (te := te) (δ := [some (ec c), some (.int lo), some (.int hi), none]) (M := M) hc (src := dSeqSrc (dVar 0)) (dSeqSrc_tup rfl)
  simp only [ec] at lc
  rw [lc _ fun p hp acc => by simp [wipeD, is_right_person_ok (h p hp)]]
  have := oAll_lst (M := M ++ [MO.lst (c.map fun _ => D.bl true)]) (n := M.length) (bs := c.map fun _ => true) (by rw [seqOf_end rfl]; simp [Function.comp_def])
  simp [this]
theorem are_people_short {l : List D} {lo hi : Int} (M : Mem) (h : ¬ (lo ≤ l.length ∧ (l.length : Int) ≤ hi)) : f_are_people [.tup l, .int lo, .int hi] M = .ok (.bl false) M := by
  unfold f_are_people fnOf
  by_cases h1 : lo ≤ l.length
  · have h2 : ¬ (l.length : Int) ≤ hi := fun z => h ⟨h1, z⟩
    simp [d_are_people, h1, h2]
  · simp [d_are_people, h1]
theorem are_people_ty {d : D} {t : String} {lo hi : Int} (M : Mem) (ht : tyOf M d = some t) (h : t = "NoneType" ∨ t = "bool" ∨ t = "str" ∨ t = "int" ∨ t = "list") : f_are_people [d, .int lo, .int hi] M = .ok (.bl false) M := by
  unfold f_are_people fnOf
  rcases h with h | h | h | h | h <;> subst h <;> simp [d_are_people, oIsi, ht, isiT]
theorem is_right_circle_ok {c : List P3} (h : okC c) (M : Mem) : f_is_right_circle [ec c] M = .ok (.bl true) M := by
  unfold f_is_right_circle fnOf
  obtain ⟨⟨h1, h2⟩, h3⟩ := h
  have := are_people_ok (lo := 2) (hi := 12) h3 (by omega) (by omega) (by omega) M
  simp [d_is_right_circle, this]
theorem is_right_circle_no {d : D} {t : String} (M : Mem) (ht : tyOf M d = some t) (h : t = "NoneType" ∨ t = "bool" ∨ t = "str" ∨ t = "int" ∨ t = "list") : f_is_right_circle [d] M = .ok (.bl false) M := by
  unfold f_is_right_circle fnOf
  simp [d_is_right_circle, are_people_ty (lo := 2) (hi := 12) M ht h]
theorem is_right_circle_short {l : List D} (M : Mem) (h : l.length < 2) : f_is_right_circle [.tup l] M = .ok (.bl false) M := by
  unfold f_is_right_circle fnOf
  simp [d_is_right_circle, are_people_short (l := l) (lo := 2) (hi := 12) M (by omega)]
theorem need_circle_ok {c : List P3} (h : okC c) (M : Mem) : f_need_circle [ec c] M = .ok .non M := by
  unfold f_need_circle fnOf
  simp [d_need_circle, is_right_circle_ok h]
theorem need_circle_no {d : D} (M : Mem) (h : f_is_right_circle [d] M = .ok (.bl false) M) : f_need_circle [d] M = .exc ⟨"InvalidCircle", []⟩ M := by
  unfold f_need_circle fnOf
  simp [d_need_circle, h]
theorem okC_few {c : List P3} (h : okC c) : few c := by have := h.1.2; omega
end Lw
namespace Lw
open PySem Pd Hr
/-! ### the readings of the beats -/
def eh (l : List Int) : D := .tup (l.map .int)
def epr (p : List Int × List Int) : D := .tup [eh p.1, eh p.2]
def es (s : Stg) : D := .tup (s.map epr)
def eg (g : List Nat) : D := .tup (g.map fun i : Nat => .int i)
theorem eg_eh (g : List Nat) : eg g = eh (g.map fun i : Nat => (i : Int)) := by unfold eg eh; rw [List.map_map]; rfl
theorem below_eh (n : Nat) (l : List Int) : belowD n (eh l) = true := below_map (fun _ => rfl) l
theorem below_eg (n : Nat) (g : List Nat) : belowD n (eg g) = true := below_map (fun _ => rfl) g
theorem below_epr (n : Nat) (p : List Int × List Int) : belowD n (epr p) = true := by
  show belowL n [eh p.1, eh p.2] = true
  exact belowL_all fun d hd => by
    simp only [List.mem_cons, List.not_mem_nil, or_false] at hd
    rcases hd with e | e <;> subst e <;> exact below_eh _ _
theorem below_es (n : Nat) (s : Stg) : belowD n (es s) = true := below_map (fun p => below_epr n p) s
theorem rep_zero (k : Nat) : (List.replicate k [D.int 0]).flatten = (List.replicate k (0 : Int)).map D.int := by
  induction k with
  | zero => rfl
  | succ k ih => rw [List.replicate_succ, List.replicate_succ, List.flatten_cons, ih]; rfl
theorem ec_get {c : List P3} {i : Nat} (h : i < c.length) : (c.map ep)[i]? = some (ep (who c i)) := by
  rw [List.getElem?_map, List.getElem?_eq_getElem h]
  unfold who
  rw [List.getD_eq_getElem?_getD, List.getElem?_eq_getElem h]
  rfl
theorem ef_get {f : List Int} {i : Nat} (h : i < f.length) : (f.map D.int)[i]? = some (.int (f.getD i 0)) := by
  rw [List.getElem?_map, List.getElem?_eq_getElem h, List.getD_eq_getElem?_getD, List.getElem?_eq_getElem h]
  rfl
theorem es_get {s : Stg} {i : Nat} (h : i < s.length) : (s.map epr)[i]? = some (epr (at' s i)) := by
  rw [List.getElem?_map, List.getElem?_eq_getElem h]
  unfold at'
  rw [List.getD_eq_getElem?_getD, List.getElem?_eq_getElem h]
  rfl
theorem ix_es {s : Stg} {i : Nat} (h : i < s.length) (M : Mem) : oIx (es s) (.int i) M = some (epr (at' s i), M) := by
  show oIx (.tup (s.map epr)) (.int i) M = _
  rw [oIx_tup, atI_nat (es_get h)]
  rfl
theorem ix_ec {c : List P3} {i : Nat} (h : i < c.length) (M : Mem) : oIx (ec c) (.int i) M = some (ep (who c i), M) := by
  show oIx (.tup (c.map ep)) (.int i) M = _
  rw [oIx_tup, atI_nat (ec_get h)]
  rfl
theorem su_mod {n i : Nat} : ((i : Int) + 1) % (n : Int) = ((su n i : Nat) : Int) := by
  unfold su
  rw [Int.natCast_emod]
  rfl
theorem pr_mod {n i : Nat} (h : 0 < n) : ((i : Int) - 1) % (n : Int) = ((pr n i : Nat) : Int) := by
  unfold pr
  rw [Int.natCast_emod, ← Int.add_emod_right, show ((i + n - 1 : Nat) : Int) = (i : Int) - 1 + n by omega]
theorem eq_rdy (l : List Int) (M : Mem) : oEq (.tup ((l.map D.int).take 1)) (.tup [.int 0]) M = some (.bl (rdy l), M) := by
  cases l with
  | nil =>
    show oEq (.tup []) (.tup [.int 0]) M = _
    rw [oEq_pln (n := 1) (m := 1) rfl rfl (by decide) (by decide), deq_ne (by simp)]
    rfl
  | cons x l =>
    show oEq (.tup [.int x]) (.tup [.int 0]) M = _
    rw [oEq_pln (n := 1) (m := 1) rfl rfl (by decide) (by decide)]
    by_cases e : x = 0
    · subst e
      rw [deq_refl]
      rfl
    · rw [deq_ne (by simp [e])]
      show _ = some (D.bl (decide (x = 0)), M)
      rw [decide_eq_false e]
theorem givers_of_ok {s : Stg} (h0 : 0 < s.length) (h1 : s.length ≤ 1000) (M : Mem) : f_givers_of [es s] M = .ok (eg (giversL s)) M := by
  have hz : sizeLine = 16777216 := sizeLine_val
  have len : ∀ M, oLen [es s] M = some (.int s.length, M) := fun M => by simp [es]
  have i0 : ∀ p M, oIx (epr p) (.int 0) M = some (eh p.1, M) := fun p M => by simp [epr]
  have i1 : ∀ p M, oIx (epr p) (.int 1) M = some (eh p.2, M) := fun p M => by simp [epr]
  have sl : ∀ l M, oSl (eh l) none (some 1) M = some (.tup ((l.map D.int).take 1), M) := fun l M => by
    show oSl (.tup _) none (some ((1 : Nat) : Int)) M = _
    rw [oSl_tup, cutD_to]
  unfold f_givers_of
  refine fn_of ?_
  unfold d_givers_of
  show WP ((sSeq _ _) [some (es s), none, none, none, none] M) _
  rw [e_sSeq]
  refine wp_next (s_asg (d := .ref M.length) (M1 := onL M [] []) (by simp [hz, onL])) ?_
  simp only [List.set, e_sSeq]
  refine wp_rng s.length (fun i δ M' => (∃ x2 x3 x4, δ = [some (es s), some (.ref M.length), x2, x3, x4]) ∧ M' = onL M (((List.range i).filter fun i => rdy (at' s i).1 && rdy (at' s (su s.length i)).2).map fun i : Nat => D.int i) []) ⟨_, dRng1_ok (j := s.length) (by simp [len]) (by omega), ⟨_, _, _, rfl⟩, rfl⟩ ?_ ?_
  · rintro i hi δ M' ⟨⟨x2, x3, x4, rfl⟩, rfl⟩
    have hs := su_lt (n := s.length) (i := i) h0
    have md : ∀ M, oMod (.int ((i : Int) + 1)) (.int s.length) M = some (.int ((su s.length i : Nat) : Int), M) := fun M => by rw [oMod_int (by omega), su_mod]
    have a1 := fun M => ix_es hi M
    have a2 := fun M => ix_es hs M
    have q1 := fun M => eq_rdy (at' s i).1 M
    have q2 := fun M => eq_rdy (at' s (su s.length i)).2 M
    generalize hA : ((List.range i).filter fun i => rdy (at' s i).1 && rdy (at' s (su s.length i)).2).map (fun i : Nat => D.int i) = A
    have lA : A.length ≤ i := by
      rw [← hA, List.length_map]
      exact Nat.le_trans (List.length_filter_le _ _) (by rw [List.length_range]; exact Nat.le_refl _)
    have nx : ((List.range (i + 1)).filter fun i => rdy (at' s i).1 && rdy (at' s (su s.length i)).2).map (fun i : Nat => D.int i) = A ++ (if (rdy (at' s i).1 && rdy (at' s (su s.length i)).2) = true then [D.int i] else []) := by
      rw [List.range_succ, List.filter_append, List.map_append, hA]
      congr 1
      by_cases g : (rdy (at' s i).1 && rdy (at' s (su s.length i)).2) = true <;> simp [g]
    have ap : ∀ d : D, oApp (.ref M.length) [d] (onL M A []) = some (.non, onL M (A ++ [d]) []) := fun d => oApp_onL (by omega)
    simp only [e_gNm, onG_some, List.set, e_sSeq]
    refine wp_next (δ := [some (es s), some (.ref M.length), some (.int i), some (eh (at' s i).1), some (eh (at' s (su s.length i)).2)]) (M := onL M A []) (by simp [len, md, a1, a2, i0, i1]) ?_
    cases g1 : rdy (at' s i).1 <;> cases g2 : rdy (at' s (su s.length i)).2 <;> rw [g1, g2] at nx <;> simp at nx <;> rw [g1] at q1 <;> rw [g2] at q2 <;> simp [sl, hz, q1, q2, isLst_onL, ap, nx]
  · rintro δ M' ⟨⟨x2, x3, x4, rfl⟩, rfl⟩
    have tt : ∀ A, oToTup [.ref M.length] (onL M A []) = some (.tup A, onL M A []) := fun A => by rw [oToTup_ref, seqOf_onL]; rfl
    simp [tt]
    exact gc_val (below_eg _ _)
theorem oSorted_ok {n : Nat} {M : Mem} {ns : List Int} (h : seqOf M n = some (ns.map .int)) (hl : ns.length < 64) : oSorted [.ref n] M = some (.ref M.length, M ++ [.lst ((sortI ns).map D.int)]) := by
  show (match (seqOf M n).bind intsD with
    | some ns => if ns.length < 64 then some (D.ref M.length, M ++ [MO.lst ((sortI ns).map D.int)]) else none
    | none => none) = _
  rw [h, Option.bind_some, intsD_ints]
  dsimp only
  rw [if_pos hl]
theorem later_ok {b : List Int} (h : b.length ≤ 60) (gone : Bool) (new : Int) (M : Mem) : f_later [eh b, .bl gone, .int new] M = .ok (eh (laterL b gone new)) M := by
  have hz : sizeLine = 16777216 := sizeLine_val
  obtain ⟨l, hl⟩ : ∃ l, (if gone = true then b.drop 1 else b) = l := ⟨_, rfl⟩
  have ll : l.length ≤ 60 := by
    rw [← hl]
    split
    · rw [List.length_drop]; omega
    · exact h
  have sl : ∀ M, oSl (eh b) (some 1) none M = some (eh (b.drop 1), M) := fun M => by
    show oSl (.tup _) (some ((1 : Nat) : Int)) none M = _
    rw [oSl_tup, cutD_from, ← List.map_drop]
    rfl
  have e1 : dIf (tV (dVar 1)) (dSl (dVar 0) (dPart (dC (.int 1))) dNoP) (dVar 0) [some (eh b), some (.bl gone), some (.int new), none, none, none] M = .ok (eh l) M := by
    rw [← hl]
    cases gone <;> simp [sl]
  have lc : dLc [4] (dSeqSrc (dVar 3)) (gNm 4) (tTrue) (dBlt oMax (aCons (dC (.int 0)) (aCons (dBin oSub (dVar 4) (dC (.int 1))) aNil))) [some (eh b), some (.bl gone), some (.int new), some (eh l), none, none] M = .ok (.ref M.length) (M ++ [.lst ((l.map dec1).map D.int)]) := by
    rw [dLc_map (l := l.map D.int) (M1 := M) (fun d => match d with
      | .int x => .int (dec1 x)
      | d => d) (dSeqSrc_tup rfl) (by rw [List.length_map]; omega) fun d hd acc => ?_]
    · rw [List.map_map, List.map_map]
      rfl
    · obtain ⟨x, _, rfl⟩ := List.mem_map.mp hd
      exact ⟨_, rfl, by simp [wipeD, dec1]⟩
  have e2 : dIf (tV (dBin oGt (dVar 2) (dC (.int 0)))) (dLst (aCons (dBin oSub (dVar 2) (dC (.int 1))) aNil)) (dLst (aNil)) [some (eh b), some (.bl gone), some (.int new), some (eh l), none, some (.ref M.length)] (M ++ [.lst ((l.map dec1).map D.int)]) = .ok (.ref (M.length + 1)) (M ++ [.lst ((l.map dec1).map D.int), .lst ((if 0 < new then [new - 1] else []).map D.int)]) := by
    by_cases g : 0 < new <;> simp [g, hz]
  have ad : oAdd (.ref M.length) (.ref (M.length + 1)) (M ++ [.lst ((l.map dec1).map D.int), .lst ((if 0 < new then [new - 1] else []).map D.int)]) = some (.ref (M.length + 2), M ++ [.lst ((l.map dec1).map D.int), .lst ((if 0 < new then [new - 1] else []).map D.int), .lst ((l.map dec1 ++ if 0 < new then [new - 1] else []).map D.int)]) := by
    rw [oAdd_lst (l := (l.map dec1).map D.int) (m := (if 0 < new then [new - 1] else []).map D.int) (by rw [lstOf_new0]; rfl) (by rw [lstOf_new]; rfl) (by
      rw [List.length_map, List.length_map, List.length_map]
      split <;> simp <;> omega)]
    simp
  generalize hL : l.map dec1 ++ (if 0 < new then [new - 1] else []) = L at ad
  have lL : L.length < 64 := by
    rw [← hL, List.length_append, List.length_map]
    split <;> simp <;> omega
  have so : oSorted [.ref (M.length + 2)] (M ++ [.lst ((l.map dec1).map D.int), .lst ((if 0 < new then [new - 1] else []).map D.int), .lst (L.map D.int)]) = some (.ref (M.length + 3), M ++ [.lst ((l.map dec1).map D.int), .lst ((if 0 < new then [new - 1] else []).map D.int), .lst (L.map D.int), .lst ((sortI L).map D.int)]) := by
    rw [oSorted_ok (ns := L) (by rw [seqOf_new]; rfl) lL]
    simp
  have tt : oToTup [.ref (M.length + 3)] (M ++ [.lst ((l.map dec1).map D.int), .lst ((if 0 < new then [new - 1] else []).map D.int), .lst (L.map D.int), .lst ((sortI L).map D.int)]) = some (eh (sortI L), M ++ [.lst ((l.map dec1).map D.int), .lst ((if 0 < new then [new - 1] else []).map D.int), .lst (L.map D.int), .lst ((sortI L).map D.int)]) := by
    rw [oToTup_ref, seqOf_new]
    rfl
  have lt : laterL b gone new = sortI L := by unfold laterL; rw [hl, hL]
  rw [lt]
  unfold f_later
  refine fn_of ?_
  unfold d_later
  show WP ((sSeq _ _) [some (eh b), some (.bl gone), some (.int new), none, none, none] M) _
  rw [e_sSeq, s_asg e1, seqK_nx, e_sSeq]
  simp only [List.set]
  rw [s_asg lc, seqK_nx, e_sSeq]
  simp only [List.set]
  generalize dIf (tV (dBin oGt (dVar 2) (dC (.int 0)))) (dLst (aCons (dBin oSub (dVar 2) (dC (.int 1))) aNil)) (dLst (aNil)) = E at e2
  rw [s_ret (d := eh (sortI L)) (M1 := M ++ [.lst ((l.map dec1).map D.int), .lst ((if 0 < new then [new - 1] else []).map D.int), .lst (L.map D.int), .lst ((sortI L).map D.int)]) (by
    simp only [e_dBlt, e_aCons, e_dBin, e_dVar, List.getElem?_cons_succ, List.getElem?_cons_zero, varK_some, bind_ok, e2, ad, ofV_some, e_aNil, so, tt]), seqK_rt]
  rw [wp_rt]
  exact gc_val (below_eh _ _)
end Lw
namespace Lw
open PySem Pd Hr
def ef (f : List Int) : D := .tup (f.map .int)
theorem below_ef (n : Nat) (l : List Int) : belowD n (ef l) = true := below_map (fun _ => rfl) l
theorem OkCF.flv {c : List P3} {f : List Int} (h : OkCF c f) {i : Nat} (hi : i < c.length) : f.getD i 0 = ((Fl f i : Nat) : Int) ∧ (who c i).2.2 - f.getD i 0 = ((Gl c f i : Nat) : Int) := by
  have := h.fl i hi
  unfold Fl Gl Hd Fl
  omega
theorem first_standing_ok {c : List P3} {f : List Int} (h : OkCF c f) (hc : c.length ≤ 1000) (hb : ∀ i, i < c.length → (who c i).2.2 ≤ 1000) (M : Mem) : f_first_standing [ec c, ef f] M = .ok (es (firstL c f)) M := by
  have hz : sizeLine = 16777216 := sizeLine_val
  have i2 : ∀ p M, oIx (ep p) (.int 2) M = some (.int p.2.2, M) := fun p M => by simp [ep]
  have len := h.len
  unfold f_first_standing
  refine fn_of ?_
  unfold d_first_standing
  show WP ((sSeq _ _) [some (ec c), some (ef f), none, none, none] M) _
  rw [e_sSeq]
  refine wp_next (s_asg (d := .ref M.length) (M1 := onL M [] []) (by simp [hz, onL])) ?_
  simp only [List.set, e_sSeq]
  have lp : (pairsD (c.map ep) (f.map D.int)).length = c.length := by rw [pairsD_length, List.length_map, List.length_map]; omega
  refine wp_for (pairsD (c.map ep) (f.map D.int)) (fun i δ M' => (∃ x3 x4, δ = [some (ec c), some (ef f), some (.ref M.length), x3, x4]) ∧ M' = onL M ((List.range i).map fun i => epr (List.replicate (Fl f i) 0, List.replicate (Gl c f i) 0)) []) ⟨onL M [] [], by unfold dZip; simp [ec, ef], ⟨_, _, rfl⟩, rfl⟩ ?_ ?_
  · rintro i d hd δ M' ⟨⟨x3, x4, rfl⟩, rfl⟩
    have hi : i < c.length := by rw [← lp]; exact (List.getElem?_eq_some_iff.mp hd).1
    rw [pairsD_get, ec_get hi, ef_get (by omega)] at hd
    cases hd
    obtain ⟨v1, v2⟩ := OkCF.flv h hi
    have hf := h.fl i hi
    have hb' := hb i hi
    have m1 : ∀ M, oMul (.tup [.int 0]) (.int (f.getD i 0)) M = some (eh (List.replicate (Fl f i) 0), M) := fun M => by
      rw [v1, oMul_tup [.int 0] (Fl f i) M (by simp; omega) (by omega), rep_zero]
      rfl
    have m2 : ∀ M, oMul (.tup [.int 0]) (.int ((who c i).2.2 - f.getD i 0)) M = some (eh (List.replicate (Gl c f i) 0), M) := fun M => by
      rw [v2, oMul_tup [.int 0] (Gl c f i) M (by simp; omega) (by omega), rep_zero]
      rfl
    generalize f.getD i 0 = v at *
    generalize hA : (List.range i).map (fun i => epr (List.replicate (Fl f i) 0, List.replicate (Gl c f i) 0)) = A
    have lA : A.length = i := by rw [← hA, List.length_map, List.length_range]
    have nx : (List.range (i + 1)).map (fun i => epr (List.replicate (Fl f i) 0, List.replicate (Gl c f i) 0)) = A ++ [epr (List.replicate (Fl f i) 0, List.replicate (Gl c f i) 0)] := by
      rw [List.range_succ, List.map_append, hA]
      rfl
    have ap : ∀ d : D, oApp (.ref M.length) [d] (onL M A []) = some (.non, onL M (A ++ [d]) []) := fun d => oApp_onL (by omega)
    simp [i2, m1, m2, hz, isLst_onL, ap, nx]
    rfl
  · rintro δ M' ⟨⟨x3, x4, rfl⟩, rfl⟩
    have tt : ∀ A, oToTup [.ref M.length] (onL M A []) = some (.tup A, onL M A []) := fun A => by rw [oToTup_ref, seqOf_onL]; rfl
    have e : es (firstL c f) = .tup ((List.range (pairsD (c.map ep) (f.map D.int)).length).map fun i => epr (List.replicate (Fl f i) 0, List.replicate (Gl c f i) 0)) := by
      unfold es firstL
      rw [List.map_map, lp]
      rfl
    rw [e]
    simp only [e_sSeq, e_sRet, e_dBlt, e_aCons, e_dVar, List.getElem?_cons_succ, List.getElem?_cons_zero, varK_some, bind_ok, e_aNil, tt, ofV_some, onV_ok, seqK_rt, wp_rt]
    exact gc_val (by rw [← e]; exact below_es _ _)
theorem in_eg (i : Nat) (g : List Nat) (M : Mem) : oIn (.int i) (eg g) M = some (.bl (decide (i ∈ g)), M) := by
  rw [eg_eh]
  show oIn (.int i) (.tup _) M = _
  rw [oIn_ints]
  congr 3
  rw [Bool.eq_iff_iff, decide_eq_true_iff, decide_eq_true_iff, List.mem_map]
  exact ⟨fun ⟨j, h, e⟩ => by have : j = i := by omega
                             subst this; exact h, fun h => ⟨i, h, rfl⟩⟩
theorem stepped_ok {c : List P3} {s : Stg} (h0 : 0 < c.length) (hc : c.length ≤ 1000) (hs : s.length = c.length) (hl : ∀ i, i < c.length → (at' s i).1.length ≤ 60 ∧ (at' s i).2.length ≤ 60) (M : Mem) : f_stepped [ec c, es s] M = .ok (.tup [es (stepL c s), eg (giversL s)]) M := by
  have hz : sizeLine = 16777216 := sizeLine_val
  have i0 : ∀ p M, oIx (ep p) (.int 0) M = some (.int p.1, M) := fun p M => by simp [ep]
  have i1 : ∀ p M, oIx (ep p) (.int 1) M = some (.int p.2.1, M) := fun p M => by simp [ep]
  have j0 : ∀ p M, oIx (epr p) (.int 0) M = some (eh p.1, M) := fun p M => by simp [epr]
  have j1 : ∀ p M, oIx (epr p) (.int 1) M = some (eh p.2, M) := fun p M => by simp [epr]
  have lc : ∀ M, oLen [ec c] M = some (.int c.length, M) := fun M => by simp [ec]
  have gv := fun M => givers_of_ok (s := s) (by omega) (by omega) M
  generalize hg : giversL s = g at gv
  unfold f_stepped
  refine fn_of ?_
  unfold d_stepped
  show WP ((sSeq _ _) [some (ec c), some (es s), none, none, none, none, none, none, none, none] M) _
  rw [e_sSeq]
  refine wp_next (s_asg (d := eg g) (M1 := M) (by simp [gv])) ?_
  simp only [List.set, e_sSeq]
  refine wp_next (s_asg (d := .ref M.length) (M1 := onL M [] []) (by simp [hz, onL])) ?_
  simp only [List.set, e_sSeq]
  have ll : (enumD 0 (c.map ep)).length = c.length := by rw [enumD_length, List.length_map]
  refine wp_for (enumD 0 (c.map ep)) (fun i δ M' => (∃ x4 x5 x6 x7 x8 x9, δ = [some (ec c), some (es s), some (eg g), some (.ref M.length), x4, x5, x6, x7, x8, x9]) ∧ M' = onL M ((List.range i).map fun i => epr (laterL (at' s i).1 (decide (i ∈ g)) (if decide (pr c.length i ∈ g) = true then (who c i).1 else 0), laterL (at' s i).2 (decide (pr c.length i ∈ g)) (if decide (i ∈ g) = true then (who c i).2.1 else 0))) []) ⟨onL M [] [], dEnum_tup rfl, ⟨_, _, _, _, _, _, rfl⟩, rfl⟩ ?_ ?_
  · rintro i d hd δ M' ⟨⟨x4, x5, x6, x7, x8, x9, rfl⟩, rfl⟩
    have hi : i < c.length := by rw [← ll]; exact (List.getElem?_eq_some_iff.mp hd).1
    rw [enumD_get, ec_get hi, Nat.zero_add] at hd
    cases hd
    have hi' : i < s.length := by omega
    have pm : ∀ M, oMod (.int ((i : Int) - 1)) (.int c.length) M = some (.int ((pr c.length i : Nat) : Int), M) := fun M => by rw [oMod_int (by omega), pr_mod h0]
    have ie := fun M => in_eg i g M
    have ip := fun M => in_eg (pr c.length i) g M
    have a1 := fun M => ix_es hi' M
    obtain ⟨l1, l2⟩ := hl i hi
    have lt1 := fun new M => later_ok l1 (decide (i ∈ g)) new M
    have lt2 := fun new M => later_ok l2 (decide (pr c.length i ∈ g)) new M
    generalize hA : (List.range i).map (fun i => epr (laterL (at' s i).1 (decide (i ∈ g)) (if decide (pr c.length i ∈ g) = true then (who c i).1 else 0), laterL (at' s i).2 (decide (pr c.length i ∈ g)) (if decide (i ∈ g) = true then (who c i).2.1 else 0))) = A
    have lA : A.length = i := by rw [← hA, List.length_map, List.length_range]
    have nx : (List.range (i + 1)).map (fun i => epr (laterL (at' s i).1 (decide (i ∈ g)) (if decide (pr c.length i ∈ g) = true then (who c i).1 else 0), laterL (at' s i).2 (decide (pr c.length i ∈ g)) (if decide (i ∈ g) = true then (who c i).2.1 else 0))) = A ++ [epr (laterL (at' s i).1 (decide (i ∈ g)) (if decide (pr c.length i ∈ g) = true then (who c i).1 else 0), laterL (at' s i).2 (decide (pr c.length i ∈ g)) (if decide (i ∈ g) = true then (who c i).2.1 else 0))] := by
      rw [List.range_succ, List.map_append, hA]
      rfl
    rw [nx]
    have ap : ∀ d : D, oApp (.ref M.length) [d] (onL M A []) = some (.non, onL M (A ++ [d]) []) := fun d => oApp_onL (by omega)
    generalize decide (i ∈ g) = b1 at *
    generalize decide (pr c.length i ∈ g) = b2 at *
    cases b1 <;> cases b2 <;> simp [lc, pm, ie, ip, a1, i0, i1, j0, j1, lt1, lt2, hz, isLst_onL, ap, epr] <;> exact ⟨⟨_, _, _, _, _, _, rfl⟩, rfl⟩
  · rintro δ M' ⟨⟨x4, x5, x6, x7, x8, x9, rfl⟩, rfl⟩
    have tt : ∀ A, oToTup [.ref M.length] (onL M A []) = some (.tup A, onL M A []) := fun A => by rw [oToTup_ref, seqOf_onL]; rfl
    have e : es (stepL c s) = .tup ((List.range (enumD 0 (c.map ep)).length).map fun i => epr (laterL (at' s i).1 (decide (i ∈ g)) (if decide (pr c.length i ∈ g) = true then (who c i).1 else 0), laterL (at' s i).2 (decide (pr c.length i ∈ g)) (if decide (i ∈ g) = true then (who c i).2.1 else 0))) := by
      unfold es stepL
      rw [List.map_map, ll, hg]
      rfl
    rw [e]
    simp only [e_sSeq, e_sRet, e_dTup, e_dBlt, e_aCons, e_dVar, List.getElem?_cons_succ, List.getElem?_cons_zero, varK_some, bind_ok, e_aNil, tt, ofV_some]
    rw [if_pos (by simp [hz]), onV_ok, seqK_rt, wp_rt]
    refine gc_val ?_
    rw [← e]
    exact belowL_all fun d hd => by
      simp only [List.mem_cons, List.not_mem_nil, or_false] at hd
      rcases hd with e | e <;> subst e
      · exact below_es _ _
      · exact below_eg _ _
/-- no row grows -/
theorem run_small {c : List P3} {f : List Int} (h : OkCF c f) (hh : ∀ i, i < c.length → (who c i).1 ≤ 9 ∧ (who c i).2.1 ≤ 9 ∧ (who c i).2.2 ≤ 3) (t : Nat) : ∀ i, i < c.length → (at' (runL c f t) i).1.length ≤ 60 ∧ (at' (runL c f t) i).2.length ≤ 60 := fun i hi => by
  rw [(run_ok h t).1, at_map hi]
  unfold shape queue
  dsimp only
  have pl : ∀ p k, k ≤ 9 → (pend p k t).length ≤ 8 := fun p k hk => by
    unfold pend
    refine Nat.le_trans (List.length_filterMap_le _ _) ?_
    rw [List.length_range]
    omega
  obtain ⟨h1, h2, h3⟩ := hh i hi
  have c1 := (h.c1 hi).2
  have b1 := (h.b1 hi).2
  have f1 := h.fl i hi
  have p1 := pl (fire c f (pr c.length i)) (Cy c i) (by omega)
  have p2 := pl (fire c f i) (Bk c i) (by omega)
  obtain ⟨n1, n2⟩ := N_le h hi t
  have gg := OkCF.fh h hi
  have hd : Hd c i ≤ 3 := by unfold Hd; omega
  have s1 : ∀ (p : Nat → Bool) (k t : Nat), cnt p (t + k) ≤ cnt p t + k := fun p k t => by
    induction k with
    | zero => exact Nat.le_refl _
    | succ k ih => have := cnt_step p (t + k); rw [show t + (k + 1) = t + k + 1 by omega]; omega
  have s2 : ∀ (p : Nat → Bool) (k : Nat), 1 ≤ k → cnt p (t + 1 - k) ≤ cnt p t := fun p k hk => cnt_mono p (by omega)
  have q1 : N c f (pr c.length i) t ≤ Gl c f i + N c f i t := Nat.le_trans n2 (Nat.add_le_add_left (s2 _ _ (OkCF.b1 h hi).1) _)
  have q2 : N c f i t ≤ Fl f i + N c f (pr c.length i) t := Nat.le_trans n1 (Nat.add_le_add_left (s2 _ _ (OkCF.c1 h hi).1) _)
  have r1 := s2 (fire c f (pr c.length i)) _ (OkCF.c1 h hi).1
  have r2 := s2 (fire c f i) _ (OkCF.b1 h hi).1
  have q1' : cnt (fire c f (pr c.length i)) t ≤ Gl c f i + cnt (fire c f i) t := q1
  have q2' : cnt (fire c f i) t ≤ Fl f i + cnt (fire c f (pr c.length i)) t := q2
  rw [List.length_append, List.length_replicate, List.length_append, List.length_replicate]
  omega
theorem passes_ok {c : List P3} {f : List Int} (h : OkCF c f) (hc : okC c) {T : Nat} (hT : T ≤ 200) (nf : ∀ M, f_need_filling [ec c, ef f] M = .ok .non M) (nc : ∀ M, f_need_circle [ec c] M = .ok .non M) (M : Mem) : f_passes [ec c, ef f, .int T] M = .ok (.ref M.length) (M ++ [.lst ((List.range T).map fun t => eg (giversL (runL c f t)))]) := by
  have hz : sizeLine = 16777216 := sizeLine_val
  have hc1 := hc.1.2
  have hw : ∀ i, i < c.length → (who c i).1 ≤ 9 ∧ (who c i).2.1 ≤ 9 ∧ (who c i).2.2 ≤ 3 := fun i hi => by
    have : who c i ∈ c := by
      unfold who
      rw [List.getD_eq_getElem?_getD, List.getElem?_eq_getElem hi]
      exact List.getElem_mem hi
    obtain ⟨⟨_, a⟩, ⟨_, b⟩, _, d⟩ := hc.2 _ this
    exact ⟨a, b, d⟩
  have nn : ∀ M, f_need_number [.int T, .int 0, .int 200] M = .ok .non M := fun M => need_number_ok (by omega) (by omega) M
  have fs := fun M => first_standing_ok h (by omega) (fun i hi => by have := (hw i hi).2.2; omega) M
  unfold f_passes
  refine fn_of ?_
  unfold d_passes
  show WP ((sSeq _ _) [some (ec c), some (ef f), some (.int T), none, none, none, none] M) _
  rw [e_sSeq]
  refine wp_next (s_drop (d := .non) (M1 := M) (by simp [nc])) ?_
  rw [e_sSeq]
  refine wp_next (s_drop (d := .non) (M1 := M) (by simp [nf])) ?_
  rw [e_sSeq]
  refine wp_next (s_drop (d := .non) (M1 := M) (by simp [nn])) ?_
  rw [e_sSeq]
  refine wp_next (δ := [some (ec c), some (ef f), some (.int T), some (es (runL c f 0)), some (.ref M.length), none, none]) (M := onL M [] []) (by simp [fs, hz, onL]; rfl) ?_
  rw [e_sSeq]
  refine wp_rng T (fun t δ M' => (∃ x5 x6, δ = [some (ec c), some (ef f), some (.int T), some (es (runL c f t)), some (.ref M.length), x5, x6]) ∧ M' = onL M ((List.range t).map fun t => eg (giversL (runL c f t))) []) ⟨_, dRng1_ok (j := T) (by simp) (by omega), ⟨_, _, rfl⟩, rfl⟩ ?_ ?_
  · rintro t ht δ M' ⟨⟨x5, x6, rfl⟩, rfl⟩
    have st := fun M => stepped_ok (c := c) (s := runL c f t) (by have := hc.1.1; omega) (by omega) (len_run t) (run_small h hw t) M
    generalize hA : (List.range t).map (fun t => eg (giversL (runL c f t))) = A
    have lA : A.length = t := by rw [← hA, List.length_map, List.length_range]
    have nx : (List.range (t + 1)).map (fun t => eg (giversL (runL c f t))) = A ++ [eg (giversL (runL c f t))] := by
      rw [List.range_succ, List.map_append, hA]
      rfl
    rw [nx]
    have ap : ∀ d : D, oApp (.ref M.length) [d] (onL M A []) = some (.non, onL M (A ++ [d]) []) := fun d => oApp_onL (by omega)
    simp [st, isLst_onL, ap]
    rfl
  · rintro δ M' ⟨⟨x5, x6, rfl⟩, rfl⟩
    simp only [e_sSeq, e_sRet, e_dVar, List.getElem?_cons_succ, List.getElem?_cons_zero, varK_some, onV_ok, seqK_rt, wp_rt]
    unfold onL
    exact gc_lst (Nat.le_refl _) (by simp) (below_map (fun t => below_eg _ _) _)
end Lw
namespace Lw
open PySem Pd
theorem mod_nn {a b : Int} (h : 0 < b) : 0 ≤ a % b ∧ a % b < b := ⟨Int.emod_nonneg _ (by omega), Int.emod_lt_of_pos _ h⟩
theorem pick_ok {s : Nat} {M : Mem} {n : Int} (h : okS M s) (hn : 0 < n) (hn2 : n < 2 ^ 60) : Dr s M (fun d => ∃ r, d = .int r ∧ 0 ≤ r ∧ r < n) (f__law_pick [.ref s, .int n] M) := by
  have hlt := h.lt
  obtain ⟨a, b, e, h1, h2, h3⟩ := h
  have sq := seqOf_lst e
  have i0 : oIx (.ref s) (.int 0) M = some (.int a, M) := by rw [oIx_lst sq]; simp
  have i1 : oIx (.ref s) (.int 1) M = some (.int b, M) := by rw [oIx_lst sq]; simp
  unfold Dr f__law_pick fnOf
  by_cases ha : 0 < a
  · obtain ⟨q1, q2⟩ := mod_nn (a := a) hn
    refine ⟨.int (a % n), a / n, b, ⟨_, rfl, q1, q2⟩, Int.ediv_nonneg h1 (by omega), h2, h3, ?_⟩
    have g := fun r => e_gSb (f := dVar 0) (i := dC (.int 0)) (d := .int (a / n)) (δ := [some (.ref s), some (.int n), some (.int r)]) (M := M) (n := s) (j := 0) (k := 0) (l := [.int a, .int b]) rfl rfl e rfl
    simp [d__law_pick, i0, ha, oMod_int hn, oFdiv_int hn (by omega : n < 2 ^ 64), g]
    exact gc_set0 rfl rfl
  · obtain ⟨q1, q2⟩ := mod_nn (a := b * 44497 + 9973) (b := 2147483647) (by omega)
    generalize hb' : (b * 44497 + 9973) % 2147483647 = b' at q1 q2
    obtain ⟨q3, q4⟩ := mod_nn (a := b' * b') (b := 2147483399) (by omega)
    obtain ⟨q5, q6⟩ := mod_nn (a := b' * b' % 2147483399 / 11) hn
    refine ⟨.int (b' * b' % 2147483399 / 11 % n), a, b', ⟨_, rfl, q5, q6⟩, h1, q1, by omega, ?_⟩
    have g := e_gSb (f := dVar 0) (i := dC (.int 1)) (d := .int b') (δ := [some (.ref s), some (.int n), none]) (M := M) (n := s) (j := 1) (k := 1) (l := [.int a, .int b]) rfl rfl e rfl
    have sq2 : seqOf (M.set s (srcM a b')) s = some [.int a, .int b'] := seqOf_lst (lstOf_set hlt)
    have i2 : oIx (.ref s) (.int 1) (M.set s (srcM a b')) = some (.int b', M.set s (srcM a b')) := by rw [oIx_lst sq2]; simp
    have m1 := oMul_int (M := M) (i := b) (j := 44497) (.inl ⟨by omega, by omega⟩)
    have m2 := oMul_int (M := M.set s (srcM a b')) (i := b') (j := b') (.inl ⟨by omega, by omega⟩)
    have g' : M.set s (MO.lst [D.int a, D.int b']) = M.set s (srcM a b') := rfl
    simp only [List.set] at g
    rw [g'] at g
    simp [d__law_pick, i0, i1, ha, m1, oMod_int (i := b * 44497 + 9973) (j := 2147483647) (M := M) (by omega), hb', g, i2, m2, oMod_int (i := b' * b') (j := 2147483399) (M := M.set s (srcM a b')) (by omega),
      oFdiv_int (i := b' * b' % 2147483399) (j := 11) (M := M.set s (srcM a b')) (by omega) (by omega), oMod_int (i := b' * b' % 2147483399 / 11) (M := M.set s (srcM a b')) hn]
    exact gc_set0 rfl rfl
theorem chosen_ok {s k : Nat} {M : Mem} {l : List D} (h : okS M s) (hl : seqOf M k = some l) (hk : k ≠ s) (h0 : 0 < l.length) (h1 : l.length < 100) (hb : belowL M.length l = true) : Dr s M (fun d => d ∈ l) (f__law_chosen [.ref s, .ref k] M) := by
  obtain ⟨d, a, b, ⟨r, rfl, r1, r2⟩, ha, hb1, hb2, e⟩ := pick_ok (n := l.length) h (by omega) (by omega)
  have sq : seqOf (M.set s (srcM a b)) k = some l := by rw [seqOf_set_ne hk, hl]
  obtain ⟨x, hx⟩ : ∃ x, l[r.toNat]? = some x := ⟨_, List.getElem?_eq_getElem (by omega)⟩
  have at_ : L2.atI l r = some x := by
    have := atI_nat hx
    rwa [show ((r.toNat : Nat) : Int) = r by omega] at this
  refine ⟨x, a, b, List.mem_of_getElem? hx, ha, hb1, hb2, ?_⟩
  have hbx : belowD M.length x = true := by
    have : ∀ (l : List D) (i : Nat), belowL M.length l = true → l[i]? = some x → belowD M.length x = true := by
      intro l
      induction l with
      | nil => intro i _ z; cases z
      | cons a l ih =>
        intro i hb hi
        unfold belowL at hb
        obtain ⟨b1, b2⟩ := Bool.and_eq_true_iff.mp hb
        cases i with
        | zero => cases hi; exact b1
        | succ i => exact ih i b2 (by simpa using hi)
    exact this l _ hb hx
  unfold f__law_chosen fnOf
  simp [d__law_chosen, oLen_lst hl, e, oIx_lst sq, at_]
  exact gc_set0 rfl hbx
/-- from a drawing on: the source goes on -/
theorem dr_next {s : Nat} {M : Mem} {P : D → Prop} {r : Res D} (h : Dr s M P r) (hs : s < M.length) : ∃ d a b, P d ∧ r = .ok d (M.set s (srcM a b)) ∧ Pd.okS (M.set s (srcM a b)) s ∧ 0 ≤ a ∧ 0 ≤ b ∧ b < 2 ^ 40 := by
  obtain ⟨d, a, b, hp, ha, hb, hb2, e⟩ := h
  exact ⟨d, a, b, hp, e, Pd.okS.set hs ha hb hb2, ha, hb, hb2⟩
theorem belowL_ints (n : Nat) (l : List Int) : belowL n (l.map D.int) = true := below_map (fun _ => rfl) l
theorem drawn_person_ok {s : Nat} {M : Mem} {most : Int} (h : okS M s) (hm : 1 ≤ most) (hm2 : most ≤ 9) : Dr s M (fun d => ∃ p, d = ep p ∧ okP p) (f__law_drawn_person [.ref s, .int most] M) := by
  have hs := h.lt
  have z3 : 3 ≤ sizeLine := by decide
  have z4 : 4 ≤ sizeLine := by decide
  -- how wide
  obtain ⟨d1, a1, b1, p1, e1, s1, _⟩ := dr_next (chosen_ok (s := s) (k := M.length) (M := M ++ [MO.lst [.int 2, .int 3, .int most]]) (l := [.int 2, .int 3, .int most]) h.app (seqOf_end rfl) (by omega) (by simp) (by simp) rfl) (by rw [List.length_append]; omega)
  rw [set_app hs] at e1 s1
  obtain ⟨wide, rfl, w1, w2⟩ : ∃ w : Int, d1 = .int w ∧ 1 ≤ w ∧ w ≤ 9 := by
    simp at p1
    rcases p1 with e | e | e
    · exact ⟨2, e, by omega, by omega⟩
    · exact ⟨3, e, by omega, by omega⟩
    · exact ⟨most, e, hm, hm2⟩
  generalize hM1 : M.set s (srcM a1 b1) ++ [MO.lst [D.int 2, .int 3, .int most]] = M1 at e1 s1
  -- carry, back
  obtain ⟨d2, a2, b2, ⟨r2, rfl, r21, r22⟩, e2, s2, _⟩ := dr_next (pick_ok (n := wide) s1 (by omega) (by omega)) s1.lt
  obtain ⟨d3, a3, b3, ⟨r3, rfl, r31, r32⟩, e3, s3, _⟩ := dr_next (pick_ok (n := wide) s2 (by omega) (by omega)) s2.lt
  rw [List.set_set] at e3 s3
  -- hands
  obtain ⟨d4, a4, b4, p4, e4, s4, q1, q2, q3⟩ := dr_next (chosen_ok (s := s) (k := (M1.set s (srcM a3 b3)).length) (M := M1.set s (srcM a3 b3) ++ [MO.lst [.int 1, .int 1, .int 2, .int 3]]) (l := [.int 1, .int 1, .int 2, .int 3]) s3.app (seqOf_end rfl) (by have := s3.lt; omega) (by simp) (by simp) rfl) (by rw [List.length_append]; have := s3.lt; omega)
  rw [set_app s3.lt, List.set_set] at e4 s4
  obtain ⟨hd, rfl, g1, g2⟩ : ∃ w : Int, d4 = .int w ∧ 1 ≤ w ∧ w ≤ 3 := by
    simp at p4
    rcases p4 with e | e | e <;> exact ⟨_, e, by omega, by omega⟩
  have hs1 := s1.lt
  refine ⟨ep (1 + r2, 1 + r3, hd), a4, b4, ⟨_, rfl, ⟨by show 1 ≤ 1 + r2; omega, by show 1 + r2 ≤ 9; omega⟩, ⟨by show 1 ≤ 1 + r3; omega, by show 1 + r3 ≤ 9; omega⟩, g1, g2⟩, q1, q2, q3, ?_⟩
  unfold f__law_drawn_person fnOf
  rw [List.length_set] at e4
  simp [d__law_drawn_person, z3, z4, e1, hM1, e2, e3, e4]
  rw [← hM1, set_app (by rw [List.length_set]; exact hs), List.set_set, List.append_assoc]
  exact gc_set rfl rfl
end Lw
namespace Lw
open PySem Pd
theorem drawn_circle_ok {s : Nat} {M : Mem} {many most : Int} (h : okS M s) (hm : 1 ≤ most) (hm2 : most ≤ 9) (h2 : 2 ≤ many) (h3 : many ≤ 12) : Dr s M (fun d => ∃ c : List P3, d = ec c ∧ okC c ∧ (c.length : Int) ≤ many) (f__law_drawn_circle [.ref s, .int many, .int most] M) := by
  have hs := h.lt
  obtain ⟨d1, a1, b1, ⟨r1, rfl, r11, r12⟩, e1, s1, _⟩ := dr_next (pick_ok (n := many - 1) h (by omega) (by omega)) hs
  obtain ⟨d2, a2, b2, ⟨one, rfl, hone⟩, e2, s2, _⟩ := dr_next (drawn_person_ok (most := most) s1 hm hm2) s1.lt
  rw [List.set_set] at e2 s2
  obtain ⟨d3, a3, b3, ⟨r3, rfl, r31, r32⟩, e3, s3, x1, x2, x3⟩ := dr_next (pick_ok (n := 4) s2 (by omega) (by omega)) s2.lt
  rw [List.set_set] at e3 s3
  obtain ⟨n, hn⟩ : ∃ n : Nat, 2 + r1 = n := ⟨(2 + r1).toNat, by omega⟩
  have loop := for_range (g := gNm 7) (n := n) (M := M.set s (srcM a3 b3)) (M1 := M.set s (srcM a3 b3)) (δ := [some (.ref s), some (.int many), some (.int most), some (.int (2 + r1)), some (.tup []), some (ep one), some (.bl (decide (r3 = 0))), none])
    (src := dRng1 (aCons (dVar 3) aNil)) (body := sSeq (sAsg (dBin oAdd (dVar 4) (dTup (aCons (dIf (tV (dVar 6)) (dVar 5) (dCall f__law_drawn_person 2 (aCons (dVar 0) (aCons (dVar 2) aNil)))) aNil))) (gNm 4)) (sNil))
    (fun i δ M' => ∃ (c : List P3) (x : Option D) (a b : Int), δ = [some (.ref s), some (.int many), some (.int most), some (.int (2 + r1)), some (ec c), some (ep one), some (.bl (decide (r3 = 0))), x] ∧ c.length = i ∧ (∀ p ∈ c, okP p) ∧ M' = M.set s (srcM a b) ∧ 0 ≤ a ∧ 0 ≤ b ∧ b < 2 ^ 40)
    (by
      refine dRng1_ok ?_ (by omega)
      simp [hn])
    ⟨[], none, a3, b3, rfl, rfl, (fun p hp => nomatch hp), rfl, x1, x2, x3⟩
    (fun i hi δ M' => by
      rintro ⟨c, x, a, b, rfl, hc, hp, rfl, ha, hb, hb2⟩
      have hz : sizeLine = 16777216 := rfl
      have z1 : 1 ≤ sizeLine := by decide
      have zc : (c.map ep).length + 1 ≤ sizeLine := by rw [List.length_map]; omega
      by_cases h0 : r3 = 0
      · refine ⟨_, _, [some (.ref s), some (.int many), some (.int most), some (.int (2 + r1)), some (ec (c ++ [one])), some (ep one), some (.bl (decide (r3 = 0))), some (.int i)], M.set s (srcM a b), rfl, ?_, c ++ [one], _, a, b, rfl, by simp [hc], fun p hp' => ?_, rfl, ha, hb, hb2⟩
        · simp [h0, z1, ec]
          rw [if_pos (by omega)]
          simp
        · rcases List.mem_append.mp hp' with z | z
          · exact hp p z
          · rw [List.mem_singleton.mp z]; exact hone
      · obtain ⟨d4, a4, b4, ⟨q, rfl, hq⟩, e4, s4, y1, y2, y3⟩ := dr_next (drawn_person_ok (M := M.set s (srcM a b)) (most := most) (okS.set hs ha hb hb2) hm hm2) (by rw [List.length_set]; exact hs)
        rw [List.set_set] at e4 s4
        refine ⟨_, _, [some (.ref s), some (.int many), some (.int most), some (.int (2 + r1)), some (ec (c ++ [q])), some (ep one), some (.bl (decide (r3 = 0))), some (.int i)], M.set s (srcM a4 b4), rfl, ?_, c ++ [q], _, a4, b4, rfl, by simp [hc], fun p hp' => ?_, rfl, y1, y2, y3⟩
        · simp [h0, z1, ec, e4]
          rw [if_pos (by omega)]
          simp
        · rcases List.mem_append.mp hp' with z | z
          · exact hp p z
          · rw [List.mem_singleton.mp z]; exact hq)
  obtain ⟨δ', M', e4, c, x, a, b, rfl, hc, hp, rfl, ha, hb, hb2⟩ := loop
  refine ⟨ec c, a, b, ⟨c, rfl, ⟨⟨by omega, by omega⟩, hp⟩, by omega⟩, ha, hb, hb2, ?_⟩
  unfold f__law_drawn_circle fnOf
  have z0 : 0 ≤ sizeLine := by decide
  simp [d__law_drawn_circle, e1, e2, e3, e4, -e_dIf]
  exact gc_set0 rfl (below_map (fun _ => rfl) _)
end Lw
namespace Lw
open PySem Pd
theorem mod_nn' {a b : Int} (h : 0 < b) : 0 ≤ a % b ∧ a % b < b := ⟨Int.emod_nonneg _ (by omega), Int.emod_lt_of_pos _ h⟩
theorem source_ok {j : Nat} {M : Mem} {ns : List Int} (hs : seqOf M j = some (ns.map .int)) (k : Nat) (hk : k < 100) : ∃ a b : Int, 0 ≤ a ∧ 0 ≤ b ∧ b < 2 ^ 40 ∧ f__law_source [.ref j, .int k] M = .ok (.ref M.length) (M ++ [srcM a b]) := by
  have z2 : 2 ≤ sizeLine := by decide
  have core : ∀ num : Int, ∃ a b : Int, 0 ≤ a ∧ 0 ≤ b ∧ b < 2 ^ 40 ∧ ∀ x, (sSeq (sAsg (dBin oMod (dBin oAdd (dBin oAdd (dBin oMul (dVar 2) (dC (.int 16807))) (dBin oMul (dC (.int 60919)) (dVar 1))) (dC (.int 31))) (dC (.int 2147481173))) (gNm 3)) (sSeq (sAsg (dBin oAdd (dBin oAdd (dBin oMod (dBin oMul (dVar 3) (dVar 3)) (dC (.int 2147481151))) (dBin oMul (dC (.int 2)) (dVar 1))) (dC (.int 5))) (gNm 3)) (sSeq (sRet (dLst (aCons (dIf (tV (dBin oGe (dVar 2) (dBin oPow (dC (.int 10)) (dC (.int 18))))) (dVar 2) (dC (.int 0))) (aCons (dVar 3) aNil)))) (sNil)))) [some (.ref j), some (.int k), some (.int num), x] M = .rt (.ref M.length) (M ++ [srcM a b]) := by
    intro num
    obtain ⟨q1, q2⟩ := mod_nn' (a := num * 16807 + 60919 * k + 31) (b := 2147481173) (by omega)
    generalize hb : (num * 16807 + 60919 * k + 31) % 2147481173 = b at q1 q2
    obtain ⟨q3, q4⟩ := mod_nn' (a := b * b) (b := 2147481151) (by omega)
    have m1 := oMul_int (M := M) (i := num) (j := 16807) (.inr ⟨by omega, by omega⟩)
    have m2 := oMul_int (M := M) (i := 60919) (j := (k : Int)) (.inl ⟨by omega, by omega⟩)
    have m3 := oMul_int (M := M) (i := b) (j := b) (.inl ⟨by omega, by omega⟩)
    have m4 := oMul_int (M := M) (i := 2) (j := (k : Int)) (.inl ⟨by omega, by omega⟩)
    have pw : oPow (.int 10) (.int 18) M = some (.int (10 ^ 18), M) := by
      show (if (0 : Int) ≤ 18 ∧ (18 : Int) ≤ 1000000 ∧ (10 : Int).natAbs < 2 ^ 64 then some (D.int (10 ^ (18 : Int).toNat)) else none).map (fun d => (d, M)) = _
      rw [if_pos ⟨by omega, by omega, by decide⟩]
      rfl
    refine ⟨if 10 ^ 18 ≤ num then num else 0, b * b % 2147481151 + 2 * k + 5, ?_, by omega, by omega, fun x => ?_⟩
    · split <;> omega
    · by_cases h : (10 : Int) ^ 18 ≤ num
      · simp [m1, m2, oMod_int (i := num * 16807 + 60919 * k + 31) (j := 2147481173) (M := M) (by omega), hb, m3, oMod_int (i := b * b) (j := 2147481151) (M := M) (by omega), m4, pw, h, z2, srcM]
        simp at h
        simp [h, z2]
      · simp [m1, m2, oMod_int (i := num * 16807 + 60919 * k + 31) (j := 2147481173) (M := M) (by omega), hb, m3, oMod_int (i := b * b) (j := 2147481151) (M := M) (by omega), m4, pw, h, z2, srcM]
        simp at h
        simp [show ¬ (1000000000000000000 ≤ num) by omega, z2]
  unfold f__law_source fnOf
  by_cases h : k < ns.length
  · obtain ⟨a, b, ha, hb, hb2, e⟩ := core (ns[k])
    refine ⟨a, b, ha, hb, hb2, ?_⟩
    have at_ : L2.atI (ns.map D.int) (k : Int) = some (.int ns[k]) := atI_nat (by rw [List.getElem?_map, List.getElem?_eq_getElem h]; rfl)
    simp only [d__law_source, List.map_cons, List.map_nil, List.length_cons, List.length_nil, List.replicate, List.cons_append, List.nil_append]
    rw [e_sSeq, show (sAsg (dC (.int 0)) (gNm 2)) [some (.ref j), some (.int k), none, none] M = .nx [some (.ref j), some (.int k), some (.int 0), none] M from rfl, seqK_nx, e_sSeq]
    rw [show (sIf (tV (dBin oGt (dBlt oLen (aCons (dVar 0) aNil)) (dVar 1))) (sSeq (sAsg (dBlt oToInt (aCons (dBin oIx (dVar 0) (dVar 1)) aNil)) (gNm 2)) (sNil)) (sNil)) [some (.ref j), some (.int k), some (.int 0), none] M = .nx [some (.ref j), some (.int k), some (.int ns[k]), none] M by
      simp [oLen_lst hs, h, oIx_lst hs, at_]]
    rw [seqK_nx, e, toR_rt]
    exact gc_lst (Nat.le_refl _) (by simp [srcM]) rfl
  · obtain ⟨a, b, ha, hb, hb2, e⟩ := core 0
    refine ⟨a, b, ha, hb, hb2, ?_⟩
    simp only [d__law_source, List.map_cons, List.map_nil, List.length_cons, List.length_nil, List.replicate, List.cons_append, List.nil_append]
    rw [e_sSeq, show (sAsg (dC (.int 0)) (gNm 2)) [some (.ref j), some (.int k), none, none] M = .nx [some (.ref j), some (.int k), some (.int 0), none] M from rfl, seqK_nx, e_sSeq]
    rw [show (sIf (tV (dBin oGt (dBlt oLen (aCons (dVar 0) aNil)) (dVar 1))) (sSeq (sAsg (dBlt oToInt (aCons (dBin oIx (dVar 0) (dVar 1)) aNil)) (gNm 2)) (sNil)) (sNil)) [some (.ref j), some (.int k), some (.int 0), none] M = .nx [some (.ref j), some (.int k), some (.int 0), none] M by
      simp [oLen_lst hs, h]]
    rw [seqK_nx, e, toR_rt]
    exact gc_lst (Nat.le_refl _) (by simp [srcM]) rfl
end Lw
namespace Lw
open PySem Pd Hr
theorem who_mem {c : List P3} {i : Nat} (h : i < c.length) : who c i ∈ c := by
  unfold who
  rw [List.getD_eq_getElem?_getD, List.getElem?_eq_getElem h]
  exact List.getElem_mem h
theorem okC.who {c : List P3} (h : okC c) {i : Nat} (hi : i < c.length) : okP (who c i) := h.2 _ (who_mem hi)
/-- a filling of a circle -/
def okF (c : List P3) (f : List Int) : Prop := f.length = c.length ∧ ∀ i, i < c.length → 0 ≤ f.getD i 0 ∧ f.getD i 0 ≤ (who c i).2.2
theorem okCF_of {c : List P3} {f : List Int} (hc : okC c) (hf : okF c f) : OkCF c f := ⟨by have := hc.1.1; omega, hf.1, fun i hi => (okC.who hc hi).1.1, fun i hi => (okC.who hc hi).2.1.1, hf.2⟩
theorem need_filling_ok {c : List P3} {f : List Int} (hc : okC c) (hf : okF c f) (M : Mem) : f_need_filling [ec c, ef f] M = .ok .non M := by
  have hz : sizeLine = 16777216 := sizeLine_val
  have lc0 : ∀ M, oLen [ec c] M = some (.int c.length, M) := fun M => by simp [ec]
  have lf0 : ∀ M, oLen [ef f] M = some (.int c.length, M) := fun M => by simp [ef, hf.1]
  have ix : ∀ p M, oIx (ep p) (.int 2) M = some (.int p.2.2, M) := fun p M => by simp [ep]
  have it : ∀ M, oIsi [ef f, .ty "tuple"] M = some (.bl true, M) := fun M => isi_tup_tuple
  have lp : (pairsD (f.map D.int) (c.map ep)).length = c.length := by rw [pairsD_length, List.length_map, List.length_map, hf.1, Nat.min_self]
  have hc1 := hc.1.2
  have ir : f_is_right_filling [ec c, ef f] M = .ok (.bl true) M := by
    have lc : dLc [2, 3] (dZip (aCons (dVar 1) (aCons (dVar 0) aNil))) (gTp 2 (gsCons (gNm 2) (gsCons (gNm 3) gsNil))) (tTrue) (dCall f_is_within 3 (aCons (dVar 2) (aCons (dC (.int 0)) (aCons (dBin oIx (dVar 3) (dC (.int 2))) aNil)))) [some (ec c), some (ef f), none, none] M = .ok (.ref M.length) (M ++ [.lst (((pairsD (f.map D.int) (c.map ep)).map fun _ => true).map .bl)]) := by
      rw [dLc_map (l := pairsD (f.map D.int) (c.map ep)) (M1 := M) (fun d => .bl true) (by unfold dZip; simp [ec, ef]) (by rw [lp]; omega) fun d hd acc => ?_]
      · rw [List.map_map]; rfl
      · obtain ⟨i, hi, e⟩ := List.getElem_of_mem hd
        have hi' : i < c.length := by omega
        have g := pairsD_get (f.map D.int) (c.map ep) i
        rw [List.getElem?_eq_getElem hi, e, ef_get (by rw [hf.1]; exact hi'), ec_get hi'] at g
        cases g
        obtain ⟨f1, f2⟩ := hf.2 i hi'
        generalize f.getD i 0 = v at *
        have w : ∀ M, f_is_within [.int v, .int 0, .int (who c i).2.2] M = .ok (.bl true) M := fun M => by
          rw [is_within_int, decide_eq_true f1, decide_eq_true f2]
          rfl
        exact ⟨_, rfl, by simp [wipeD, ix, w]⟩
    have al := oAll_lst (M := M ++ [MO.lst (((pairsD (f.map D.int) (c.map ep)).map fun _ => true).map .bl)]) (n := M.length) (bs := (pairsD (f.map D.int) (c.map ep)).map fun _ => true) (seqOf_end rfl)
    have aa : ((pairsD (f.map D.int) (c.map ep)).map fun _ => true).all id = true := by
      rw [List.all_map]
      exact List.all_eq_true.mpr fun _ _ => rfl
    rw [aa] at al
    unfold f_is_right_filling
    refine fn_of ?_
    simp [-List.map_map, -List.map_const', d_is_right_filling, lc0, lf0, it, lc, al]
  unfold f_need_filling fnOf
  simp [d_need_filling, ir]
theorem drawn_filling_ok {s : Nat} {M : Mem} {c : List P3} (h : okS M s) (hc : okC c) : Dr s M (fun d => ∃ f, d = ef f ∧ okF c f) (f__law_drawn_filling [.ref s, ec c] M) := by
  have hs := h.lt
  have hz : sizeLine = 16777216 := sizeLine_val
  have ix : ∀ p M, oIx (ep p) (.int 2) M = some (.int p.2.2, M) := fun p M => by simp [ep]
  have hc1 := hc.1.2
  obtain ⟨ys, a, b, e, al, h1, h2, h3⟩ := dLc_draw2 (own := [2]) (s := s) (src := dSeqSrc (dVar 1)) (g := gNm 2) (te := dCall f__law_pick 2 (aCons (dVar 0) (aCons (dBin oAdd (dBin oIx (dVar 2) (dC (.int 2))) (dC (.int 1))) aNil))) (δ := [some (.ref s), some (ec c), none]) (M := M) (M1 := M) (l := c.map ep) (fun d x => ∃ p : P3, d = ep p ∧ ∃ r, x = .int r ∧ 0 ≤ r ∧ r ≤ p.2.2) (dSeqSrc_tup rfl) h (by rw [List.length_map, hz]; omega) fun d hd a b acc ha hb hb2 => by
    obtain ⟨p, hp, rfl⟩ := List.mem_map.mp hd
    obtain ⟨⟨_, _⟩, ⟨_, _⟩, p5, p6⟩ := hc.2 p hp
    have s1 : okS (M.set s (srcM a b) ++ [.lst acc]) s := (okS.set hs ha hb hb2).app
    obtain ⟨d, a', b', ⟨r, rfl, r0, r1⟩, k1, k2, k3, e⟩ := pick_ok (n := p.2.2 + 1) s1 (by omega) (by omega)
    refine ⟨_, rfl, .int r, a', b', ⟨p, rfl, r, rfl, r0, by omega⟩, k1, k2, k3, ?_⟩
    simp [wipeD, ix, e]
  obtain ⟨f, rfl⟩ : ∃ f : List Int, ys = f.map .int := by
    have : ∀ x ∈ ys, ∃ r, x = D.int r := fun x hx => by
      obtain ⟨d, _, p, _, r, e, _⟩ := al.mem hx
      exact ⟨r, e⟩
    clear al e
    induction ys with
    | nil => exact ⟨[], rfl⟩
    | cons y ys ih =>
      obtain ⟨f, hf⟩ := ih fun x hx => this x (List.mem_cons_of_mem _ hx)
      obtain ⟨r, hr⟩ := this y List.mem_cons_self
      exact ⟨r :: f, by rw [hr, hf]; rfl⟩
  have fl : f.length = c.length := by
    have := al.len
    rw [List.length_map, List.length_map] at this
    exact this
  have okf : okF c f := ⟨fl, fun i hi => by
    obtain ⟨p, e1, r, e2, r0, r1⟩ := al.get (ec_get hi) (ef_get (f := f) (i := i) (by omega))
    have e1' : who c i = p := by
      unfold ep at e1
      simp at e1
      obtain ⟨a1, a2, a3⟩ := e1
      exact Prod.ext a1 (Prod.ext a2 a3)
    have e2' : f.getD i 0 = r := by
      have := D.int.inj e2
      exact this
    rw [e1', e2']
    exact ⟨r0, r1⟩⟩
  have tt : oToTup [.ref M.length] (M.set s (srcM a b) ++ [.lst (f.map D.int)]) = some (ef f, M.set s (srcM a b) ++ [.lst (f.map D.int)]) := by
    rw [oToTup_ref, seqOf_end (by rw [List.length_set])]
    rfl
  refine ⟨ef f, a, b, ⟨f, rfl, okf⟩, h1, h2, h3, ?_⟩
  unfold f__law_drawn_filling
  refine fn_of ?_
  simp [d__law_drawn_filling, e, tt]
  exact gc_set rfl (below_ef _ _)
end Lw
namespace Lw
open PySem Pd Hr
def nl (l : List Nat) : List D := l.map fun v : Nat => .int v
def oN : Option Nat → D
  | some v => .int v
  | none => .non
theorem nl_len (l : List Nat) : (nl l).length = l.length := List.length_map _
theorem nl_get {l : List Nat} {i v : Nat} (h : l[i]? = some v) : (nl l)[i]? = some (.int v) := by
  unfold nl
  rw [List.getElem?_map, h]
  rfl
theorem law_need_ok {M : Mem} {k : Nat} {L : List Nat} (h : seqOf M k = some (nl L)) (n F lag : Nat) : f__law_need [.ref k, .int ((n : Int) - F), .int lag] M = .ok (oN (need L n F lag)) M := by
  have ll : ∀ M', M' = M → oLen [.ref k] M' = some (.int L.length, M') := fun M' e => by rw [e, oLen_lst h, nl_len]
  unfold f__law_need fnOf need
  by_cases g : n < F
  · have g' : (n : Int) - F < 0 := by omega
    rw [if_pos g]
    simp [d__law_need, g', oN]
  · have g' : ¬ (n : Int) - F < 0 := by omega
    rw [if_neg g]
    have cst : (n : Int) - F = ((n - F : Nat) : Int) := by omega
    rw [cst] at g' ⊢
    by_cases q : n - F < L.length
    · have e : L[n - F]? = some L[n - F] := List.getElem?_eq_getElem q
      have ix := oIx_lst (i := ((n - F : Nat) : Int)) h
      rw [atI_nat (nl_get e)] at ix
      rw [e]
      simp [d__law_need, g', ll, q, ix, oN]
    · rw [List.getElem?_eq_none (by omega)]
      simp [d__law_need, g', ll, q, oN]
/-- the times found so far, as they lie in the store -/
def tm (M : Mem) (n : Nat) (A : List (List Nat)) : Mem := M ++ (.lst ((List.range n).map fun i => .ref (M.length + 1 + i)) :: A.map fun l => .lst (nl l))
theorem tm_out (M : Mem) (n : Nat) (A : List (List Nat)) : seqOf (tm M n A) M.length = some ((List.range n).map fun i => .ref (M.length + 1 + i)) := by
  unfold tm
  rw [seqOf_new0]
  rfl
theorem tm_lin {M : Mem} {n i : Nat} {A : List (List Nat)} (h : i < A.length) : lstOf (tm M n A) (M.length + 1 + i) = some (nl (row A i)) := by
  unfold tm
  rw [show M.length + 1 + i = M.length + (i + 1) by omega, lstOf_new, lstOf_cS]
  unfold lstOf
  rw [List.getElem?_map, List.getElem?_eq_getElem h]
  unfold row
  rw [List.getD_eq_getElem?_getD, List.getElem?_eq_getElem h]
  rfl
theorem tm_in {M : Mem} {n i : Nat} {A : List (List Nat)} (h : i < A.length) : seqOf (tm M n A) (M.length + 1 + i) = some (nl (row A i)) := seq_of_lst (tm_lin h)
theorem tm_app {M : Mem} {n i v : Nat} {A : List (List Nat)} (h : i < A.length) (hl : (row A i).length < 1000000) : oApp (.ref (M.length + 1 + i)) [.int v] (tm M n A) = some (.non, tm M n (A.set i (row A i ++ [v]))) := by
  rw [oApp_ref, tm_lin h, Option.bind_some, if_pos (by rw [nl_len, sizeLine_val]; omega)]
  congr 2
  unfold tm
  rw [show M.length + 1 + i = M.length + (i + 1) by omega, setM_new]
  congr 1
  rw [List.set_cons_succ, List.map_set]
  congr 3
  unfold nl
  rw [List.map_append]
  rfl
theorem tm_ix {M : Mem} {n i : Nat} {A : List (List Nat)} (h : i < n) : oIx (.ref M.length) (.int i) (tm M n A) = some (.ref (M.length + 1 + i), tm M n A) := by
  rw [oIx_lst (tm_out M n A), atI_nat (n := i) (d := .ref (M.length + 1 + i)) (by rw [List.getElem?_map, List.getElem?_range h]; rfl)]
  rfl
theorem tm_ixp {M : Mem} {n i : Nat} {A : List (List Nat)} (h : i < n) : oIx (.ref M.length) (.int ((i : Int) - 1)) (tm M n A) = some (.ref (M.length + 1 + pr n i), tm M n A) := by
  by_cases e : i = 0
  · subst e
    have : pr n 0 = n - 1 := by unfold pr; rw [Nat.zero_add, Nat.mod_eq_of_lt (by omega)]
    rw [this, oIx_lst (tm_out M n A)]
    have at1 : L2.atI ((List.range n).map fun i => D.ref (M.length + 1 + i)) (((0 : Nat) : Int) - 1) = some (.ref (M.length + 1 + (n - 1))) := by
      unfold L2.atI L2.ixN
      rw [List.length_map, List.length_range, if_neg (by omega), if_pos (by omega), Option.bind_some, show (((0 : Nat) : Int) - 1 + (n : Int)).toNat = n - 1 by omega, List.getElem?_map, List.getElem?_range (by omega)]
      rfl
    rw [at1]
    rfl
  · have : pr n i = i - 1 := by
      unfold pr
      rw [show i + n - 1 = i - 1 + n by omega, Nat.add_mod_right, Nat.mod_eq_of_lt (by omega)]
    rw [this, show (i : Int) - 1 = ((i - 1 : Nat) : Int) by omega]
    exact tm_ix (by omega)
theorem comp_new {M : Mem} {g : GF D} {δ : DEnv} : ∀ (l acc : List D) (j : Nat), acc.length + l.length ≤ sizeLine → (∀ d ∈ l, ∀ M, ∃ δ', g d δ M = some (δ', M)) →
    compL M.length g tTrue (dLst aNil) δ l (M ++ (.lst acc :: List.replicate j (.lst []))) = some (M ++ (.lst (acc ++ (List.range' j l.length).map fun i => .ref (M.length + 1 + i)) :: List.replicate (j + l.length) (.lst [])))
  | [], acc, j, _, _ => by
    unfold compL
    simp
  | d :: l, acc, j, hl, hg => by
    rw [List.length_cons] at hl
    obtain ⟨δ', e⟩ := hg d List.mem_cons_self (M ++ (.lst acc :: List.replicate j (.lst [])))
    have z0 : 0 ≤ sizeLine := Nat.zero_le _
    have step : compStep M.length g tTrue (dLst aNil) δ d (M ++ (.lst acc :: List.replicate j (.lst []))) = some (M ++ (.lst (acc ++ [.ref (M.length + 1 + j)]) :: List.replicate (j + 1) (.lst []))) := by
      unfold compStep
      rw [e]
      dsimp only
      show (match tTrue δ' (M ++ (.lst acc :: List.replicate j (.lst []))) with
        | .ok b M2 => _
        | _ => none) = _
      show (if true = true then _ else _) = _
      rw [if_pos rfl]
      have e2 : dLst aNil δ' (M ++ (.lst acc :: List.replicate j (.lst []))) = .ok (.ref (M.length + 1 + j)) (M ++ (.lst acc :: List.replicate (j + 1) (.lst []))) := by
        rw [e_dLst, e_aNil, bind_ok, if_pos (by simp)]
        rw [List.append_assoc, List.cons_append, ← List.replicate_succ']
        congr 2
        rw [List.length_append, List.length_cons, List.length_replicate]
        omega
      rw [e2]
      dsimp only
      rw [lstOf_mid]
      dsimp only
      rw [if_pos (by omega), setM_new0]
      rfl
    unfold compL
    rw [step]
    show compL M.length g tTrue (dLst aNil) δ l _ = _
    rw [comp_new l _ (j + 1) (by rw [List.length_append, List.length_singleton]; omega) fun d hd => hg d (List.mem_cons_of_mem _ hd)]
    rw [List.length_cons, List.append_assoc, List.range'_succ, List.map_cons, show j + 1 + l.length = j + (l.length + 1) by omega]
    rfl
theorem new_rows {M : Mem} {c : List P3} {δ : DEnv} (h : δ[0]? = some (some (ec c))) (hl : c.length ≤ 1000) : dLc [4] (dSeqSrc (dVar 0)) (gNm 4) (tTrue) (dLst aNil) δ M = .ok (.ref M.length) (tm M c.length (List.replicate c.length [])) := by
  have hz : sizeLine = 16777216 := sizeLine_val
  unfold dLc
  rw [dSeqSrc_tup (M1 := M) (l := c.map ep) (by rw [e_dVar, h]; rfl)]
  have k := comp_new (M := M) (g := gNm 4) (δ := wipeD δ [4]) (c.map ep) [] 0 (by simp; omega) fun d hd M => ⟨_, rfl⟩
  show (match compL M.length (gNm 4) tTrue (dLst aNil) (wipeD δ [4]) (c.map ep) (M ++ [.lst []]) with
    | some M' => Res.ok (D.ref M.length) M'
    | none => .bad) = _
  have k' : compL M.length (gNm 4) tTrue (dLst aNil) (wipeD δ [4]) (c.map ep) (M ++ [.lst []]) = some (tm M c.length (List.replicate c.length [])) := by
    rw [show M ++ [MO.lst []] = M ++ (.lst [] :: List.replicate 0 (.lst [])) from rfl, k]
    unfold tm
    rw [List.length_map, Nat.zero_add, List.nil_append, List.map_replicate, ← List.range_eq_range']
    rfl
  rw [k']
end Lw
namespace Lw
open PySem Pd Hr
theorem row_len {c : List P3} {f : List Int} {T : Nat} {A : List (List Nat)} (P : Pre c f T A) {i : Nat} (hi : i < c.length) : (row A i).length ≤ T := by
  have h1 := (P.pre i hi).length_le
  have h2 : (tl (fire c f i) T).length ≤ T := by
    unfold tl
    exact Nat.le_trans (List.length_filter_le _ _) (by rw [List.length_range]; exact Nat.le_refl _)
  omega
theorem max3 (b d l : Nat) : (if (l : Int) > (if (d : Int) > (b : Int) then (d : Int) else (b : Int)) then (l : Int) else (if (d : Int) > (b : Int) then (d : Int) else (b : Int))) = ((max (max b d) l : Nat) : Int) := by
  split <;> split <;> omega
theorem last_atI {L : List Nat} (h : 0 < L.length) : L2.atI (nl L) (-1) = some (.int (L.getD (L.length - 1) 0)) := by
  unfold L2.atI L2.ixN
  rw [if_neg (by omega), if_pos (by rw [nl_len]; omega), Option.bind_some, nl_len, show (-1 + (L.length : Int)).toNat = L.length - 1 by omega]
  refine nl_get ?_
  rw [List.getElem?_eq_getElem (by omega), List.getD_eq_getElem?_getD, List.getElem?_eq_getElem (by omega)]
  rfl
/-- one person of a sweep -/
noncomputable def oneDS : DS := (sSeq (sAsg (dBin oMod (dBin oAdd (dVar 7) (dC (.int 1))) (dVar 3)) (gNm 8)) (sSeq (sAsg (dBlt oLen (aCons (dBin oIx (dVar 5) (dVar 7)) aNil)) (gNm 9)) (sSeq (sAsg (dCall f__law_need 3 (aCons (dBin oIx (dVar 5) (dBin oSub (dVar 7) (dC (.int 1)))) (aCons (dBin oSub (dVar 9) (dBin oIx (dVar 1) (dVar 7))) (aCons (dBin oIx (dBin oIx (dVar 0) (dVar 7)) (dC (.int 0))) aNil)))) (gNm 10)) (sSeq (sAsg (dBin oSub (dBin oIx (dBin oIx (dVar 0) (dVar 8)) (dC (.int 2))) (dBin oIx (dVar 1) (dVar 8))) (gNm 11)) (sSeq (sAsg (dCall f__law_need 3 (aCons (dBin oIx (dVar 5) (dVar 8)) (aCons (dBin oSub (dVar 9) (dVar 11)) (aCons (dBin oIx (dBin oIx (dVar 0) (dVar 8)) (dC (.int 1))) aNil)))) (gNm 12)) (sSeq (sAsg (dIf (tV (dBin oGt (dVar 9) (dC (.int 0)))) (dBin oAdd (dBin oIx (dBin oIx (dVar 5) (dVar 7)) (dUn oNeg (dC (.int 1)))) (dC (.int 1))) (dC (.int 0))) (gNm 13)) (sSeq (sIf (tAnd (tV (dBin oNotN (dVar 10) (dC .non))) (tAnd (tV (dBin oNotN (dVar 12) (dC .non))) (tV (dBin oLt (dBlt oMax (aCons (dVar 10) (aCons (dVar 12) (aCons (dVar 13) aNil)))) (dVar 2))))) (sSeq (sDrop (dMt isLst oApp (dBin oIx (dVar 5) (dVar 7)) (aCons (dBlt oMax (aCons (dVar 10) (aCons (dVar 12) (aCons (dVar 13) aNil)))) aNil))) (sSeq (sAsg (dC (.bl true)) (gNm 6)) (sNil))) (sNil)) (sNil))))))))
/-- what a sweep does at i -/
def one1 (c : List P3) (f : List Int) (T : Nat) (A : List (List Nat)) (i : Nat) : Option Nat := (nextT c f A i).bind fun v => if v < T then some v else none
theorem one_ok {c : List P3} {f : List Int} {T i : Nat} {A : List (List Nat)} {M : Mem} (h : OkCF c f) (P : Pre c f T A) (hT : T ≤ 1000) (hi : i < c.length) (hc : c.length ≤ 1000) (b : Bool) (x4 x8 x9 x10 x11 x12 x13 : Option D) :
    ∃ y8 y9 y10 y11 y12 y13, oneDS [some (ec c), some (ef f), some (.int T), some (.int c.length), x4, some (.ref M.length), some (.bl b), some (.int i), x8, x9, x10, x11, x12, x13] (tm M c.length A) =
      .nx [some (ec c), some (ef f), some (.int T), some (.int c.length), x4, some (.ref M.length), some (.bl (b || (one1 c f T A i).isSome)), some (.int i), y8, y9, y10, y11, y12, y13] (tm M c.length (match one1 c f T A i with
        | some v => A.set i (row A i ++ [v])
        | none => A)) := by
  have hz : sizeLine = 16777216 := sizeLine_val
  have hp := pr_lt (n := c.length) (i := i) h.n0
  have hs := su_lt (n := c.length) (i := i) h.n0
  have hA := P.len
  have rl := row_len P hi
  have i0 : ∀ p M, oIx (ep p) (.int 0) M = some (.int p.1, M) := fun p M => by simp [ep]
  have i1 : ∀ p M, oIx (ep p) (.int 1) M = some (.int p.2.1, M) := fun p M => by simp [ep]
  have i2 : ∀ p M, oIx (ep p) (.int 2) M = some (.int p.2.2, M) := fun p M => by simp [ep]
  have md : ∀ M, oMod (.int ((i : Int) + 1)) (.int c.length) M = some (.int ((su c.length i : Nat) : Int), M) := fun M => by rw [oMod_int (by have := h.n0; omega), su_mod]
  have q1 := tm_ix (M := M) (n := c.length) (A := A) hi
  have q2 := tm_ix (M := M) (n := c.length) (A := A) hs
  have q3 := tm_ixp (M := M) (n := c.length) (A := A) hi
  have ln : oLen [.ref (M.length + 1 + i)] (tm M c.length A) = some (.int (row A i).length, tm M c.length A) := by rw [oLen_lst (tm_in (by omega)), nl_len]
  have fi : ∀ {j : Nat}, j < c.length → ∀ M, oIx (ef f) (.int j) M = some (.int (f.getD j 0), M) := fun {j} hj M => by
    show oIx (.tup _) _ M = _
    rw [oIx_tup, atI_nat (ef_get (by rw [h.len]; exact hj))]
    rfl
  have f1 := fun M => fi hi M
  have f2 := fun M => fi hs M
  have c1 := fun M => ix_ec hi M
  have c2 := fun M => ix_ec hs M
  obtain ⟨v1, _⟩ := OkCF.flv h hi
  obtain ⟨v3, v2⟩ := OkCF.flv h hs
  have cyi := (OkCF.c1 h hi).2
  have bks := (OkCF.b1 h hs).2
  have n1 := law_need_ok (tm_in (M := M) (n := c.length) (A := A) (i := pr c.length i) (by omega)) (row A i).length (Fl f i) (Cy c i)
  have n2 := law_need_ok (tm_in (M := M) (n := c.length) (A := A) (i := su c.length i) (by omega)) (row A i).length (Gl c f (su c.length i)) (Bk c (su c.length i))
  have la : dIf (tV (dBin oGt (dVar 9) (dC (.int 0)))) (dBin oAdd (dBin oIx (dBin oIx (dVar 5) (dVar 7)) (dUn oNeg (dC (.int 1)))) (dC (.int 1))) (dC (.int 0)) [some (ec c), some (ef f), some (.int T), some (.int c.length), x4, some (.ref M.length), some (.bl b), some (.int i), some (.int (su c.length i : Nat)), some (.int (row A i).length), some (oN (need (row A (pr c.length i)) (row A i).length (Fl f i) (Cy c i))), some (.int (Gl c f (su c.length i) : Nat)), some (oN (need (row A (su c.length i)) (row A i).length (Gl c f (su c.length i)) (Bk c (su c.length i)))), x13] (tm M c.length A) = .ok (.int (last (row A i) : Nat)) (tm M c.length A) := by
    unfold last
    by_cases g : 0 < (row A i).length
    · have ix := oIx_lst (i := -1) (tm_in (M := M) (n := c.length) (A := A) (i := i) (by omega))
      rw [last_atI g] at ix
      rw [if_pos g]
      generalize hr : row A i = r at *
      generalize r.getD (r.length - 1) 0 = w at *
      simp [g, q1, ix]
    · rw [if_neg g]
      simp [g]
  have ap := fun v => tm_app (M := M) (n := c.length) (v := v) (A := A) (i := i) (by omega) (by omega)
  have il : isLst (.ref (M.length + 1 + i)) (tm M c.length A) = true := by rw [isLst_ref, tm_in (by omega)]; rfl
  generalize f.getD i 0 = w1 at *
  generalize f.getD (su c.length i) 0 = w2 at *
  subst w1
  unfold oneDS
  rw [e_sSeq, s_asg (d := .int (su c.length i : Nat)) (M1 := tm M c.length A) (by simp [md]), seqK_nx, e_sSeq]
  simp only [List.set]
  rw [s_asg (d := .int (row A i).length) (M1 := tm M c.length A) (by simp [q1, ln]), seqK_nx, e_sSeq]
  simp only [List.set]
  rw [s_asg (d := oN (need (row A (pr c.length i)) (row A i).length (Fl f i) (Cy c i))) (M1 := tm M c.length A) (by simp [q3, f1, c1, i0, ← cyi, n1]), seqK_nx, e_sSeq]
  simp only [List.set]
  rw [s_asg (d := .int (Gl c f (su c.length i) : Nat)) (M1 := tm M c.length A) (by simp [c2, i2, f2, v2]), seqK_nx, e_sSeq]
  simp only [List.set]
  rw [s_asg (d := oN (need (row A (su c.length i)) (row A i).length (Gl c f (su c.length i)) (Bk c (su c.length i)))) (M1 := tm M c.length A) (by simp [q2, c2, i1, ← bks, n2]), seqK_nx, e_sSeq]
  simp only [List.set]
  rw [s_asg la, seqK_nx, e_sSeq]
  simp only [List.set]
  unfold one1 nextT
  generalize need (row A (pr c.length i)) (row A i).length (Fl f i) (Cy c i) = o1
  generalize need (row A (su c.length i)) (row A i).length (Gl c f (su c.length i)) (Bk c (su c.length i)) = o2
  generalize last (row A i) = l
  have nn : ∀ (i : Int) M, oNotN (.int i) .non M = some (.bl true, M) := fun _ _ => nr rfl
  refine ⟨some (.int (su c.length i : Nat)), some (.int (row A i).length), some (oN o1), some (.int (Gl c f (su c.length i) : Nat)), some (oN o2), some (.int l), ?_⟩
  cases o1 with
  | none => simp [oN]
  | some b1 =>
    cases o2 with
    | none => simp [oN, nn]
    | some b2 =>
      have m3 := max3 b1 b2 l
      generalize hm : max (max b1 b2) l = mv at *
      have om : ∀ M, oMax [.int b1, .int b2, .int l] M = some (.int mv, M) := fun M => by
        show some (D.int _, M) = _
        rw [m3]
      dsimp only
      simp only [Option.bind_some, hm]
      by_cases g : mv < T
      · simp [oN, nn, om, g, q1, il, ap]
      · simp [oN, nn, om, g]
end Lw
namespace Lw
open PySem Pd Hr
theorem gc_tm {M : Mem} {n : Nat} {A : List (List Nat)} (hn : 0 < n) : gcR M (.ok (.ref M.length) (tm M n A)) = .ok (.ref M.length) (tm M n A) := by
  show gcV M (.ref M.length) (tm M n A) = _
  unfold gcV
  rw [if_pos (by unfold tm; exact oldOk_self M _)]
  rw [if_neg (by show ¬ (decide (M.length < M.length) = true); simp)]
  have e : (tm M n A)[M.length]? = some (.lst ((List.range n).map fun i => .ref (M.length + 1 + i))) := by unfold tm; simp
  dsimp only
  rw [e]
  dsimp only
  rw [if_neg]
  rintro ⟨_, h⟩
  obtain ⟨n, rfl⟩ : ∃ k, n = k + 1 := ⟨n - 1, by omega⟩
  rw [List.range_succ_eq_map, List.map_cons] at h
  have h' := belowL_mem h _ List.mem_cons_self
  have h2 : decide (M.length + 1 + 0 < M.length) = true := h'
  have := of_decide_eq_true h2
  omega
theorem one1_some {c : List P3} {f : List Int} {T i v : Nat} {A : List (List Nat)} (h : one1 c f T A i = some v) : nextT c f A i = some v ∧ v < T := by
  unfold one1 at h
  obtain ⟨w, e, h⟩ := Option.bind_eq_some_iff.mp h
  split at h
  · cases h; exact ⟨e, by assumption⟩
  · cases h
theorem one1_none {c : List P3} {f : List Int} {T i v : Nat} {A : List (List Nat)} (h : one1 c f T A i = none) (e : nextT c f A i = some v) : T ≤ v := by
  unfold one1 at h
  rw [e, Option.bind_some] at h
  split at h
  · cases h
  · omega
def fullT (c : List P3) (f : List Int) (T : Nat) : List (List Nat) := (List.range c.length).map fun i => tl (fire c f i) T
theorem rows_eq {n : Nat} {A : List (List Nat)} {g : Nat → List Nat} (hl : A.length = n) (h : ∀ i, i < n → row A i = g i) : A = (List.range n).map g := by
  refine List.ext_getElem? fun i => ?_
  by_cases hi : i < n
  · have := h i hi
    unfold row at this
    rw [List.getD_eq_getElem?_getD, List.getElem?_eq_getElem (by omega)] at this
    rw [List.getElem?_map, List.getElem?_range hi, List.getElem?_eq_getElem (by omega)]
    exact congrArg some this
  · rw [List.getElem?_eq_none (by omega), List.getElem?_eq_none (by rw [List.length_map, List.length_range]; omega)]
theorem law_times_ok {c : List P3} {f : List Int} {T : Nat} (h : OkCF c f) (hT : T ≤ 1000) (hc : c.length ≤ 1000) (M : Mem) : f__law_times [ec c, ef f, .int T] M = .ok (.ref M.length) (tm M c.length (fullT c f T)) := by
  have hz : sizeLine = 16777216 := sizeLine_val
  have lc : ∀ M, oLen [ec c] M = some (.int c.length, M) := fun M => by simp [ec]
  have nr0 := fun (δ : DEnv) h0 => new_rows (M := M) (c := c) (δ := δ) h0 hc
  unfold f__law_times
  refine fn_of ?_
  unfold d__law_times
  show WP ((sSeq _ _) [some (ec c), some (ef f), some (.int T), none, none, none, none, none, none, none, none, none, none, none] M) _
  rw [e_sSeq]
  refine wp_next (s_asg (d := .int c.length) (M1 := M) (by simp [lc])) ?_
  simp only [List.set, e_sSeq]
  refine wp_next (δ := [some (ec c), some (ef f), some (.int T), some (.int c.length), none, some (.ref M.length), some (.bl true), none, none, none, none, none, none, none]) (M := tm M c.length (List.replicate c.length [])) (by
    rw [e_sPar, e_aCons, nr0 _ rfl]
    simp) ?_
  rw [e_sSeq]
  refine wp_while (fun m δ M' => ∃ A b x4 x7 x8 x9 x10 x11 x12 x13, δ = [some (ec c), some (ef f), some (.int T), some (.int c.length), x4, some (.ref M.length), some (.bl b), x7, x8, x9, x10, x11, x12, x13] ∧ M' = tm M c.length A ∧ Pre c f T A ∧ (b = false → ∀ i, i < c.length → row A i = tl (fire c f i) T) ∧ m = if b = true then c.length * T - total A + 1 else 0) ?_ (c.length * T - total (List.replicate c.length []) + 1) _ _ ⟨_, true, _, _, _, _, _, _, _, _, rfl, rfl, Pre.start h T, nofun, rfl⟩
  rintro m δ _ ⟨A, b, x4, x7, x8, x9, x10, x11, x12, x13, rfl, rfl, P, hf, hm⟩
  cases b with
  | false =>
    refine ⟨false, tm M c.length A, by simp, ?_⟩
    rw [if_neg Bool.false_ne_true]
    have e := rows_eq P.len (hf rfl)
    have e' : A = fullT c f T := e
    subst e'
    simp only [e_sSeq, e_sRet, e_dVar, List.getElem?_cons_succ, List.getElem?_cons_zero, varK_some, onV_ok, seqK_rt, wp_rt]
    exact gc_tm h.n0
  | true =>
    refine ⟨true, tm M c.length A, by simp, ?_⟩
    rw [if_pos rfl, e_sSeq]
    refine wp_next (s_asg (d := .bl false) (M1 := tm M c.length A) (by simp)) ?_
    simp only [List.set, e_sSeq]
    refine wp_rng c.length (fun i δ M' => ∃ A' b' x7 x8 x9 x10 x11 x12 x13, δ = [some (ec c), some (ef f), some (.int T), some (.int c.length), x4, some (.ref M.length), some (.bl b'), x7, x8, x9, x10, x11, x12, x13] ∧ M' = tm M c.length A' ∧ Pre c f T A' ∧ (b' = false → A' = A ∧ ∀ j, j < i → one1 c f T A j = none) ∧ total A ≤ total A' ∧ (b' = true → total A < total A')) ⟨_, dRng1_ok (j := c.length) (by simp) (by omega), A, false, _, _, _, _, _, _, _, rfl, rfl, P, fun _ => ⟨rfl, fun j hj => absurd hj (Nat.not_lt_zero _)⟩, Nat.le_refl _, nofun⟩ ?_ ?_
    · rintro i hi δ _ ⟨A', b', x7, x8, x9, x10, x11, x12, x13, rfl, rfl, P', h1, h2, h3⟩
      obtain ⟨y8, y9, y10, y11, y12, y13, e⟩ := one_ok (M := M) h P' hT hi hc b' x4 x8 x9 x10 x11 x12 x13
      simp only [e_gNm, onG_some, List.set]
      show WP (oneDS _ _) _
      rw [e, step_nx]
      cases o : one1 c f T A' i with
      | none =>
        refine ⟨A', b', some (.int i), y8, y9, y10, y11, y12, y13, by simp, rfl, P', fun hb => ?_, h2, h3⟩
        obtain ⟨rfl, hj⟩ := h1 hb
        refine ⟨rfl, fun j hj' => ?_⟩
        by_cases q : j = i
        · subst q; exact o
        · exact hj j (by omega)
      | some v =>
        obtain ⟨nv, vT⟩ := one1_some o
        have ts := total_set (A := A') (i := i) (v := v) (by rw [P'.len]; exact hi)
        refine ⟨A'.set i (row A' i ++ [v]), true, some (.int i), y8, y9, y10, y11, y12, y13, by simp, rfl, Pre.put h P' hi nv vT, nofun, by omega, fun _ => by omega⟩
    · rintro δ _ ⟨A', b', x7, x8, x9, x10, x11, x12, x13, rfl, rfl, P', h1, h2, h3⟩
      rw [e_sNil, step_nx]
      have tl' := total_le P'
      rw [if_pos rfl] at hm
      refine ⟨if b' = true then c.length * T - total A' + 1 else 0, ?_, A', b', _, _, _, _, _, _, _, _, rfl, rfl, P', fun hb => ?_, rfl⟩
      · cases b' with
        | false => rw [if_neg Bool.false_ne_true]; omega
        | true => have := h3 rfl; rw [if_pos rfl]; omega
      · obtain ⟨rfl, hj⟩ := h1 hb
        exact all_full h P' fun i hi v e => one1_none (hj i hi) e
end Lw
namespace Lw
open PySem Pd Hr
/-- quicker, with as many people -/
structure Quick (c c' : List P3) : Prop where
  ok : okC c'
  len : c'.length = c.length
  cy : ∀ i, i < c.length → Cy c' i ≤ Cy c i
  bk : ∀ i, i < c.length → Bk c' i ≤ Bk c i
  hd : ∀ i, i < c.length → Hd c i ≤ Hd c' i
  hi : ∀ i, i < c.length → (who c i).2.2 ≤ (who c' i).2.2
theorem who_set {c : List P3} {i j : Nat} {p : P3} (hi : i < c.length) : who (c.set i p) j = if i = j then p else who c j := by
  unfold who
  rw [List.getD_eq_getElem?_getD, List.getD_eq_getElem?_getD]
  by_cases e : i = j
  · subst e
    rw [if_pos rfl, List.getElem?_set_self hi]
    rfl
  · rw [if_neg e, List.getElem?_set_ne e]
theorem quick_of {c : List P3} (hc : okC c) {i : Nat} (hi : i < c.length) {p : P3} (hp : okP p) (h1 : p.1 ≤ (who c i).1) (h2 : p.2.1 ≤ (who c i).2.1) (h3 : (who c i).2.2 ≤ p.2.2) : Quick c (c.set i p) := by
  refine ⟨⟨by rw [List.length_set]; exact hc.1, fun q hq => ?_⟩, List.length_set, fun j hj => ?_, fun j hj => ?_, fun j hj => ?_, fun j hj => ?_⟩
  · rcases List.mem_or_eq_of_mem_set hq with z | z
    · exact hc.2 q z
    · rw [z]; exact hp
  · unfold Cy
    rw [who_set hi]
    split
    · rename_i e; subst e; omega
    · exact Nat.le_refl _
  · unfold Bk
    rw [who_set hi]
    split
    · rename_i e; subst e; omega
    · exact Nat.le_refl _
  · unfold Hd
    rw [who_set hi]
    split
    · rename_i e; subst e; omega
    · exact Nat.le_refl _
  · rw [who_set hi]
    split
    · rename_i e; subst e; exact h3
    · exact Int.le_refl _
theorem quicker_ok {s : Nat} {M : Mem} {c : List P3} (h : okS M s) (hc : okC c) : Dr s M (fun d => ∃ c', d = ec c' ∧ Quick c c') (f__law_quicker [.ref s, ec c] M) := by
  have hs := h.lt
  have hz : sizeLine = 16777216 := sizeLine_val
  have hc1 := hc.1
  have lc : ∀ M, oLen [ec c] M = some (.int c.length, M) := fun M => by simp [ec]
  obtain ⟨_, a1, b1, ⟨r, rfl, r0, r1⟩, e1, s1, u1, u2, u3⟩ := dr_next (pick_ok (n := (c.length : Int)) h (by omega) (by omega)) hs
  have s1' : s < (M.set s (srcM a1 b1)).length := by rw [List.length_set]; exact hs
  obtain ⟨_, a2, b2, ⟨w, rfl, w0, w1⟩, e2, s2, u4, u5, u6⟩ := dr_next (pick_ok (n := 3) s1 (by omega) (by omega)) s1'
  rw [List.set_set] at e2 s2
  obtain ⟨i, rfl⟩ : ∃ i : Nat, r = i := ⟨r.toNat, by omega⟩
  have hi : i < c.length := by omega
  have hM2 : (M.set s (srcM a2 b2)).length = M.length := List.length_set
  have ixc := fun M => ix_ec hi M
  obtain ⟨⟨c1, c2⟩, ⟨b1', b2'⟩, h1, h2⟩ := okC.who hc hi
  generalize hp : who c i = p at ixc c1 c2 b1' b2' h1 h2
  generalize hP1 : ((if p.1 - 1 > 1 then p.1 - 1 else 1, p.2.1, p.2.2) : P3) = p1
  generalize hP2 : ((p.1, if p.2.1 - 1 > 1 then p.2.1 - 1 else 1, p.2.2) : P3) = p2
  generalize hP3 : ((p.1, p.2.1, if p.2.2 + 1 < 3 then p.2.2 + 1 else 3) : P3) = p3
  have o1 : okP p1 ∧ p1.1 ≤ p.1 ∧ p1.2.1 ≤ p.2.1 ∧ p.2.2 ≤ p1.2.2 := by
    subst hP1
    unfold okP
    dsimp only
    split <;> omega
  have o2 : okP p2 ∧ p2.1 ≤ p.1 ∧ p2.2.1 ≤ p.2.1 ∧ p.2.2 ≤ p2.2.2 := by
    subst hP2
    unfold okP
    dsimp only
    split <;> omega
  have o3 : okP p3 ∧ p3.1 ≤ p.1 ∧ p3.2.1 ≤ p.2.1 ∧ p.2.2 ≤ p3.2.2 := by
    subst hP3
    unfold okP
    dsimp only
    split <;> omega
  obtain ⟨q, hq, oq1, oq2, oq3, oq4⟩ : ∃ q : P3, L2.atI [ep p1, ep p2, ep p3] w = some (ep q) ∧ okP q ∧ q.1 ≤ p.1 ∧ q.2.1 ≤ p.2.1 ∧ p.2.2 ≤ q.2.2 := by
    have : w = 0 ∨ w = 1 ∨ w = 2 := by omega
    rcases this with e | e | e <;> subst e
    · exact ⟨p1, by simp, o1⟩
    · exact ⟨p2, by simp, o2⟩
    · exact ⟨p3, by simp, o3⟩
  refine ⟨ec (c.set i q), a2, b2, ⟨_, rfl, quick_of hc hi oq1 (by rw [hp]; exact oq2) (by rw [hp]; exact oq3) (by rw [hp]; exact oq4)⟩, u4, u5, u6, ?_⟩
  generalize hM : M.set s (srcM a2 b2) = M2 at e2 s2 hM2
  have eL : dLst (aCons (dTup (aCons (dBlt oMax (aCons (dC (.int 1)) (aCons (dBin oSub (dVar 4) (dC (.int 1))) aNil))) (aCons (dVar 5) (aCons (dVar 6) aNil)))) (aCons (dTup (aCons (dVar 4) (aCons (dBlt oMax (aCons (dC (.int 1)) (aCons (dBin oSub (dVar 5) (dC (.int 1))) aNil))) (aCons (dVar 6) aNil)))) aNil)) [some (.ref s), some (ec c), some (.int i), some (.int w), some (.int p.1), some (.int p.2.1), some (.int p.2.2), none] M2 = .ok (.ref M2.length) (onL M2 [ep p1, ep p2] []) := by
    simp [hz, onL, ep, ← hP1, ← hP2]
  have e3 : dTup (aCons (dVar 4) (aCons (dVar 5) (aCons (dBlt oMin (aCons (dC (.int 3)) (aCons (dBin oAdd (dVar 6) (dC (.int 1))) aNil))) aNil))) [some (.ref s), some (ec c), some (.int i), some (.int w), some (.int p.1), some (.int p.2.1), some (.int p.2.2), some (.ref M2.length)] (onL M2 [ep p1, ep p2] []) = .ok (ep p3) (onL M2 [ep p1, ep p2] []) := by
    simp [hz, ep, ← hP3]
  have ap := e_app (M1 := M2) (A := [ep p1, ep p2]) (G := []) (f := dVar 7) (δ := [some (.ref s), some (ec c), some (.int i), some (.int w), some (.int p.1), some (.int p.2.1), some (.int p.2.2), some (.ref M2.length)]) rfl e3 (by simp [hz])
  have ixs : oIx (.ref M2.length) (.int w) (onL M2 [ep p1, ep p2, ep p3] []) = some (ep q, onL M2 [ep p1, ep p2, ep p3] []) := by
    rw [oIx_lst (seqOf_onL _ _ _), hq]
    rfl
  have sl1 : ∀ M, oSl (ec c) none (some (i : Int)) M = some (.tup ((c.map ep).take i), M) := fun M => by
    show oSl (.tup _) none (some (i : Int)) M = _
    rw [oSl_tup, cutD_to]
  have sl2 : ∀ M, oSl (ec c) (some ((i : Int) + 1)) none M = some (.tup ((c.map ep).drop (i + 1)), M) := fun M => by
    show oSl (.tup _) (some ((i + 1 : Nat) : Int)) none M = _
    rw [oSl_tup, cutD_from]
  have cut : (c.map ep).take i ++ ep q :: (c.map ep).drop (i + 1) = (c.set i q).map ep := by
    rw [List.map_set, set_cut _ _ _ (by rw [List.length_map]; exact hi)]
  unfold f__law_quicker
  refine fn_of ?_
  unfold d__law_quicker
  show WP ((sSeq _ _) [some (.ref s), some (ec c), none, none, none, none, none, none] M) _
  rw [e_sSeq]
  refine wp_next (δ := [some (.ref s), some (ec c), some (.int i), some (.int w), none, none, none, none]) (M := M2) (by simp [lc, e1, e2]) ?_
  rw [e_sSeq]
  refine wp_next (δ := [some (.ref s), some (ec c), some (.int i), some (.int w), some (.int p.1), some (.int p.2.1), some (.int p.2.2), none]) (M := M2) (by simp [ixc, ep]) ?_
  rw [e_sSeq]
  refine wp_next (s_asg eL) ?_
  simp only [List.set, e_sSeq]
  refine wp_next (s_drop ap) ?_
  rw [e_sSeq]
  have len1 : i + (1 + (c.length - (i + 1))) ≤ 16777216 := by omega
  refine wp_ret (d := ec (c.set i q)) (M := onL M2 [ep p1, ep p2, ep p3] []) (s_ret (by
    simp [ixs, sl1, sl2, hz]
    rw [if_pos (by omega)]
    simp
    rw [if_pos (by omega)]
    simp [cut, ec])) ?_
  rw [wp_rt]
  unfold onL
  rw [← hM]
  exact gc_set rfl (below_map (fun _ => rfl) _)
end Lw
namespace Lw
open PySem Pd Hr
def told (c : List P3) (f : List Int) (T : Nat) : List D := (List.range T).map fun t => eg (giversL (runL c f t))
theorem told_get {c : List P3} {f : List Int} {T t : Nat} (h : t < T) : (told c f T)[t]? = some (eg (giversL (runL c f t))) := by
  unfold told
  rw [List.getElem?_map, List.getElem?_range h]
  rfl
theorem told_len (c : List P3) (f : List Int) (T : Nat) : (told c f T).length = T := by unfold told; rw [List.length_map, List.length_range]
theorem in_fire (c : List P3) (f : List Int) (i t : Nat) (M : Mem) : oIn (.int i) (eg (giversL (runL c f t))) M = some (.bl (fire c f i t), M) := in_eg i _ M
theorem pln_nl (l : List Nat) : plnL 0 (nl l) = true := by
  induction l with
  | nil => rfl
  | cons a l ih =>
    show plnL 0 (D.int a :: nl l) = true
    unfold plnL
    rw [ih]
    rfl
/-- the list of the beats of one person -/
theorem beats_of {c : List P3} {f : List Int} {T i k : Nat} {M : Mem} (hT : T ≤ 1000) (hk : seqOf M k = some (told c f T)) {δ : DEnv} (h6 : δ[6]? = some (some (.int T))) (h7 : δ[7]? = some (some (.ref k))) (h9 : δ[9]? = some (some (.int i))) (h10 : δ.length = 15) :
    dLc [10] (dRng1 (aCons (dVar 6) aNil)) (gNm 10) (tV (dBin oIn (dVar 9) (dBin oIx (dVar 7) (dVar 10)))) (dVar 10) δ M = .ok (.ref M.length) (M ++ [.lst (nl (tl (fire c f i) T))]) := by
  have hz : sizeLine = 16777216 := sizeLine_val
  rw [dLc_fm (l := (List.range T).map fun k : Nat => D.int k) (M1 := M) (fun d => match d with
    | .int t => fire c f i t.toNat
    | _ => false) id (dRng1_ok (j := T) (by simp [h6]) (by omega)) (by rw [List.length_map, List.length_range]; omega) fun d hd acc => ?_]
  · congr 3
    rw [List.map_id, List.filter_map]
    unfold nl tl
    rfl
  · obtain ⟨t, ht, rfl⟩ := List.mem_map.mp hd
    have ht' := List.mem_range.mp ht
    have ix := oIx_lst (i := (t : Int)) (seqOf_app [.lst acc] hk)
    rw [atI_nat (told_get ht')] at ix
    have fi := in_fire c f i t (M ++ [.lst acc])
    have g10 : ((wipeD δ [10]).set 10 (some (.int t)))[10]? = some (some (D.int t)) := by rw [List.getElem?_set_self (by show 10 < (δ.set 10 none).length; rw [List.length_set]; omega)]
    have g9 : ((wipeD δ [10]).set 10 (some (.int t)))[9]? = some (some (D.int i)) := by
      rw [List.getElem?_set_ne (by omega)]
      show (δ.set 10 none)[9]? = _
      rw [List.getElem?_set_ne (by omega), h9]
    have g7 : ((wipeD δ [10]).set 10 (some (.int t)))[7]? = some (some (D.ref k)) := by
      rw [List.getElem?_set_ne (by omega)]
      show (δ.set 10 none)[7]? = _
      rw [List.getElem?_set_ne (by omega), h7]
    refine ⟨_, rfl, ?_, fun _ => ?_⟩
    · simp only [e_tV, e_dBin, e_dVar, g9, g7, g10, varK_some, bind_ok, ix, Option.map_some, ofV_some, fi, tvK_bl]
      rfl
    · simp only [e_dVar, g10, varK_some]
      rfl
theorem eq_two : oEq (.tup [.int 1]) (.tup [.int 1]) ([] : Mem) = some (.bl true, []) := by rw [oEq_pln (n := 1) (m := 1) rfl rfl (by decide) (by decide), deq_refl]
theorem two_told : (List.range 12).map (fun t => giversL (runL [(1, 1, 1), (9, 9, 3)] [1, 0] t)) = [0] :: (List.replicate 8 [] ++ [[1], [0], []]) := by decide +kernel
theorem plnL_egs (l : List (List Nat)) : plnL 1 (l.map eg) = true := by
  induction l with
  | nil => rfl
  | cons a l ih =>
    rw [List.map_cons]
    unfold plnL
    rw [ih, Bool.and_true]
    show plnL 0 (nl a) = true
    exact pln_nl a
theorem final : ∀ ns : List Int, ns.length ≤ 63 → (∀ z ∈ ns, Builtin.Int.intBits z ≤ 1048576) → ∀ m, (m = MO.lst (ns.map .int) ∨ m = MO.fz (ns.map .int)) → ∃ M', f_law [.ref 0] [m] = .ok (.bl true) M' := fun ns hl _ m hm => by
  have hs : seqOf [m] 0 = some (ns.map .int) := by
    rcases hm with e | e <;> subst e <;> rfl
  have hz : sizeLine = 16777216 := sizeLine_val
  obtain ⟨n, hn⟩ : ∃ n : Nat, (if (if (ns.length : Int) < 14 then (ns.length : Int) else 14) > 5 then (if (ns.length : Int) < 14 then (ns.length : Int) else 14) else 5) = n := ⟨(if (if (ns.length : Int) < 14 then (ns.length : Int) else 14) > 5 then (if (ns.length : Int) < 14 then (ns.length : Int) else 14) else 5).toNat, by split <;> split <;> omega⟩
  have hn2 : n < 100 := by
    have : (n : Int) ≤ 14 := by rw [← hn]; split <;> split <;> omega
    omega
  show ∃ M', gcR [m] (toR (d_law [some (.ref 0), none, none, none, none, none, none, none, none, none, none, none, none, none, none] [m])) = _
  refine wp_to (r := d_law [some (.ref 0), none, none, none, none, none, none, none, none, none, none, none, none, none, none] [m]) (Q := fun r => ∃ M', gcR [m] (toR r) = .ok (.bl true) M') ?_
  unfold d_law
  rw [e_sSeq]
  refine wp_rng n (fun _ δ M => (∃ x1 x2 x3 x4 x5 x6 x7 x8 x9 x10 x11 x12 x13 x14, δ = [some (.ref 0), x1, x2, x3, x4, x5, x6, x7, x8, x9, x10, x11, x12, x13, x14]) ∧ seqOf M 0 = some (ns.map .int)) ⟨_, dRng1_ok (M1 := [m]) (j := n) (by simp [oLen_lst hs]; simpa using hn) (by omega), ⟨_, _, _, _, _, _, _, _, _, _, _, _, _, _, rfl⟩, hs⟩ ?_ ?_
  · rintro i hi δ M ⟨⟨x1, x2, x3, x4, x5, x6, x7, x8, x9, x10, x11, x12, x13, x14, rfl⟩, hq⟩
    have h0 : 0 < M.length := seqOf_lt hq
    obtain ⟨a, b, ha, hb, hb2, e1⟩ := source_ok hq i (by omega)
    have s1 : okS (M ++ [srcM a b]) M.length := ⟨a, b, lstOf_end rfl, ha, hb, hb2⟩
    have hq1 : seqOf (M ++ [srcM a b]) 0 = some (ns.map .int) := seqOf_app _ hq
    simp only [e_gNm, onG_some, List.set, e_sSeq]
    refine wp_next (s_asg (d := .ref M.length) (M1 := M ++ [srcM a b]) (by simp [e1])) ?_
    simp only [List.set, e_sSeq]
    generalize M ++ [srcM a b] = M1 at s1 hq1
    generalize hsrc : M.length = s at s1
    have hs0 : 0 < s := by omega
    refine wp_rng 3 (fun _ δ M => (∃ x3 x4 x5 x6 x7 x8 x9 x10 x11 x12 x13 x14, δ = [some (.ref 0), some (.int i), some (.ref s), x3, x4, x5, x6, x7, x8, x9, x10, x11, x12, x13, x14]) ∧ seqOf M 0 = some (ns.map .int) ∧ okS M s) ⟨_, dRng1_ok (M1 := M1) (j := 3) (by simp) (by omega), ⟨_, _, _, _, _, _, _, _, _, _, _, _, rfl⟩, hq1, s1⟩ ?_ ?_
    · rintro u hu δ M2 ⟨⟨x3, x4, x5, x6, x7, x8, x9, x10, x11, x12, x13, x14, rfl⟩, hq2, s2⟩
      obtain ⟨_, a2, b2, ⟨c, rfl, hc, _⟩, e2, s3, q1, q2, q3⟩ := dr_next (drawn_circle_ok (many := 7) (most := 9) s2 (by omega) (by omega) (by omega) (by omega)) s2.lt
      have hq3 : seqOf (M2.set s (srcM a2 b2)) 0 = some (ns.map .int) := by rw [seqOf_set_ne (by omega)]; exact hq2
      generalize M2.set s (srcM a2 b2) = M3 at e2 s3 hq3
      obtain ⟨_, a3, b3, ⟨f, rfl, hf⟩, e3, s4, q4, q5, q6⟩ := dr_next (drawn_filling_ok s3 hc) s3.lt
      have hq4 : seqOf (M3.set s (srcM a3 b3)) 0 = some (ns.map .int) := by rw [seqOf_set_ne (by omega)]; exact hq3
      generalize M3.set s (srcM a3 b3) = M4 at e3 s4 hq4
      have s4' : okS (M4 ++ [.lst [.int 9, .int 30, .int 60]]) s := s4.app
      obtain ⟨_, a5, b5, mT, e5, s5, _⟩ := dr_next (chosen_ok (k := M4.length) (l := [.int 9, .int 30, .int 60]) s4' (seqOf_end rfl) (by have := s4.lt; omega) (by decide) (by decide) rfl) s4'.lt
      have hq5 : seqOf ((M4 ++ [MO.lst [.int 9, .int 30, .int 60]]).set s (srcM a5 b5)) 0 = some (ns.map .int) := by rw [seqOf_set_ne (by omega)]; exact seqOf_app _ hq4
      generalize (M4 ++ [MO.lst [.int 9, .int 30, .int 60]]).set s (srcM a5 b5) = M5 at e5 s5 hq5
      obtain ⟨T, rfl, hT⟩ : ∃ T : Nat, _ = D.int T ∧ T ≤ 60 := by
        simp only [List.mem_cons, List.not_mem_nil, or_false] at mT
        rcases mT with e | e | e
        · exact ⟨9, e, by omega⟩
        · exact ⟨30, e, by omega⟩
        · exact ⟨60, e, by omega⟩
      have cf := okCF_of hc hf
      have hc1 := hc.1
      have nc := fun M => need_circle_ok hc M
      have nf := fun M => need_filling_ok hc hf M
      have ps := passes_ok cf hc (T := T) (by omega) nf nc M5
      have lt := law_times_ok cf (T := T) (by omega) (by omega) (M5 ++ [.lst (told c f T)])
      have lc : ∀ M, oLen [ec c] M = some (.int c.length, M) := fun M => by simp [ec]
      simp only [e_gNm, onG_some, List.set, e_sSeq]
      refine wp_next (s_asg (d := ec c) (M1 := M3) (by simp [e2])) ?_
      simp only [List.set, e_sSeq]
      refine wp_next (δ := [some (.ref 0), some (.int i), some (.ref s), some (.int u), some (ec c), some (ef f), some (.int T), x7, x8, x9, x10, x11, x12, x13, x14]) (M := M5) (by simp [e3, hz, e5]) ?_
      rw [e_sSeq]
      refine wp_next (s_asg (d := .ref M5.length) (M1 := M5 ++ [.lst (told c f T)]) (by simp [ps, told])) ?_
      simp only [List.set, e_sSeq]
      have tk0 : seqOf (M5 ++ [.lst (told c f T)]) M5.length = some (told c f T) := seqOf_end rfl
      have s6 : okS (M5 ++ [.lst (told c f T)]) s := s5.app
      have hq6 : seqOf (M5 ++ [.lst (told c f T)]) 0 = some (ns.map .int) := seqOf_app _ hq5
      generalize M5.length = k1 at tk0
      generalize M5 ++ [MO.lst (told c f T)] = M6 at tk0 lt s6 hq6
      refine wp_next (s_asg (d := .ref M6.length) (M1 := tm M6 c.length (fullT c f T)) (by simp [lt])) ?_
      simp only [List.set, e_sSeq]
      have len : (fullT c f T).length = c.length := by unfold fullT; rw [List.length_map, List.length_range]
      have rowi : ∀ j, j < c.length → row (fullT c f T) j = tl (fire c f j) T := fun j hj => by
        unfold row fullT
        rw [List.getD_eq_getElem?_getD, List.getElem?_map, List.getElem?_range hj]
        rfl
      have to := tm_out M6 c.length (fullT c f T)
      have ti : ∀ j, j < c.length → seqOf (tm M6 c.length (fullT c f T)) (M6.length + 1 + j) = some (nl (tl (fire c f j) T)) := fun j hj => by
        rw [← rowi j hj]
        exact tm_in (by rw [len]; exact hj)
      obtain ⟨G0, hG0⟩ : ∃ G0, tm M6 c.length (fullT c f T) = M6 ++ G0 := ⟨_, rfl⟩
      have tk7 : seqOf (tm M6 c.length (fullT c f T)) k1 = some (told c f T) := by rw [hG0]; exact seqOf_app _ tk0
      have s7 : okS (tm M6 c.length (fullT c f T)) s := by rw [hG0]; exact s6.app
      have hq7 : seqOf (tm M6 c.length (fullT c f T)) 0 = some (ns.map .int) := by rw [hG0]; exact seqOf_app _ hq6
      generalize M6.length = k2 at to ti
      generalize tm M6 c.length (fullT c f T) = M7 at to ti tk7 s7 hq7
      refine wp_rng c.length (fun _ δ M => (∃ x9 x10, δ = [some (.ref 0), some (.int i), some (.ref s), some (.int u), some (ec c), some (ef f), some (.int T), some (.ref k1), some (.ref k2), x9, x10, x11, x12, x13, x14]) ∧ ∃ G, M = M7 ++ G) ⟨M7, dRng1_ok (j := c.length) (by simp [lc]) (by omega), ⟨_, _, rfl⟩, [], by simp⟩ ?_ ?_
      · rintro j hj δ _ ⟨⟨x9, x10, rfl⟩, G, rfl⟩
        simp only [e_gNm, onG_some, List.set, e_sSeq]
        have bo := beats_of (i := j) (T := T) (c := c) (f := f) (k := k1) (M := M7 ++ G) (δ := [some (.ref 0), some (.int i), some (.ref s), some (.int u), some (ec c), some (ef f), some (.int T), some (.ref k1), some (.ref k2), some (.int j), x10, x11, x12, x13, x14]) (by omega) (seqOf_app _ tk7) rfl rfl rfl rfl
        have ix : oIx (.ref k2) (.int j) (M7 ++ G ++ [.lst (nl (tl (fire c f j) T))]) = some (.ref (k2 + 1 + j), M7 ++ G ++ [.lst (nl (tl (fire c f j) T))]) := by
          rw [oIx_lst (seqOf_app _ (seqOf_app _ to)), atI_nat (n := j) (d := .ref (k2 + 1 + j)) (by rw [List.getElem?_map, List.getElem?_range hj]; rfl)]
          rfl
        have ne := oNe_lst (M := M7 ++ G ++ [.lst (nl (tl (fire c f j) T))]) (i := (M7 ++ G).length) (j := k2 + 1 + j) (a := nl (tl (fire c f j) T)) (b := nl (tl (fire c f j) T)) (n := 0) (m := 0) (seqOf_end rfl) (seqOf_app _ (seqOf_app _ (ti j hj))) (pln_nl _) (pln_nl _) (by decide) (by decide)
        rw [deqL_refl] at ne
        rw [s_if (t := false) (M1 := M7 ++ G ++ [.lst (nl (tl (fire c f j) T))]) (by
          rw [e_tV, e_dBin, bo]
          simp only [bind_ok, e_dBin, e_dVar, List.getElem?_cons_succ, List.getElem?_cons_zero, varK_some, ix, ofV_some, ne, Bool.not_true, tvK_bl])]
        rw [if_neg Bool.false_ne_true, e_sNil, seqK_nx, e_sNil, step_nx]
        exact ⟨⟨_, _, rfl⟩, _, List.append_assoc _ _ _⟩
      · rintro δ _ ⟨⟨x9, x10, rfl⟩, G, rfl⟩
        have s8 : okS (M7 ++ G) s := s7.app
        have tk8 : seqOf (M7 ++ G) k1 = some (told c f T) := seqOf_app _ tk7
        have hq8 : seqOf (M7 ++ G) 0 = some (ns.map .int) := seqOf_app _ hq7
        generalize M7 ++ G = M8 at s8 tk8 hq8
        obtain ⟨_, a9, b9, ⟨c', rfl, hQ⟩, e9, s9, q7, q8, q9⟩ := dr_next (quicker_ok s8 hc) s8.lt
        have hks : k1 ≠ s := fun z => by
          obtain ⟨aa, bb, ee, _⟩ := s8
          have := seq_of_lst ee
          rw [← z, tk8] at this
          have t0 := congrArg (fun x => (x.map fun l => l[0]?)) this
          simp only [Option.map_some] at t0
          by_cases T0 : T = 0
          · subst T0
            cases t0
          · rw [told_get (by omega)] at t0
            cases t0
        have tk9 : seqOf (M8.set s (srcM a9 b9)) k1 = some (told c f T) := by rw [seqOf_set_ne hks]; exact tk8
        have hq9 : seqOf (M8.set s (srcM a9 b9)) 0 = some (ns.map .int) := by rw [seqOf_set_ne (by omega)]; exact hq8
        generalize M8.set s (srcM a9 b9) = M9 at e9 s9 tk9 hq9
        have hf' : okF c' f := ⟨by rw [hQ.len]; exact hf.1, fun j hj => by
          have := hf.2 j (by rw [← hQ.len]; exact hj)
          have := hQ.hi j (by rw [← hQ.len]; exact hj)
          omega⟩
        have cf' := okCF_of hQ.ok hf'
        have nc' := fun M => need_circle_ok hQ.ok M
        have nf' := fun M => need_filling_ok hQ.ok hf' M
        have ps' := passes_ok cf' hQ.ok (T := T) (by omega) nf' nc' M9
        have qk := quicker cf cf' hQ.len hQ.cy hQ.bk hQ.hd
        rw [e_sSeq]
        refine wp_next (s_asg (d := .ref M9.length) (M1 := M9 ++ [.lst (told c' f T)]) (by simp [e9, ps', told])) ?_
        simp only [List.set, e_sSeq]
        have tk10 : seqOf (M9 ++ [.lst (told c' f T)]) M9.length = some (told c' f T) := seqOf_end rfl
        have tk10' : seqOf (M9 ++ [.lst (told c' f T)]) k1 = some (told c f T) := seqOf_app _ tk9
        have s10 : okS (M9 ++ [.lst (told c' f T)]) s := s9.app
        have hq10 : seqOf (M9 ++ [.lst (told c' f T)]) 0 = some (ns.map .int) := seqOf_app _ hq9
        generalize M9.length = k3 at tk10
        generalize M9 ++ [MO.lst (told c' f T)] = M10 at tk10 tk10' s10 hq10
        refine wp_rng c.length (fun _ δ M => (∃ x9 x10 x12 x13, δ = [some (.ref 0), some (.int i), some (.ref s), some (.int u), some (ec c), some (ef f), some (.int T), some (.ref k1), some (.ref k2), x9, x10, some (.ref k3), x12, x13, x14]) ∧ M = M10) ⟨M10, dRng1_ok (j := c.length) (by simp [lc]) (by omega), ⟨_, _, _, _, rfl⟩, rfl⟩ ?_ ?_
        · rintro j hj δ M10 ⟨⟨x9, x10, x12, x13, rfl⟩, rfl⟩
          simp only [e_gNm, onG_some, List.set, e_sSeq]
          refine wp_next (δ := [some (.ref 0), some (.int i), some (.ref s), some (.int u), some (ec c), some (ef f), some (.int T), some (.ref k1), some (.ref k2), some (.int j), x10, some (.ref k3), some (.int 0), some (.int 0), x14]) (M := M10) (by simp) ?_
          rw [e_sSeq]
          refine wp_rng T (fun t δ M => (∃ x10, δ = [some (.ref 0), some (.int i), some (.ref s), some (.int u), some (ec c), some (ef f), some (.int T), some (.ref k1), some (.ref k2), some (.int j), x10, some (.ref k3), some (.int (N c f j t : Nat)), some (.int (N c' f j t : Nat)), x14]) ∧ M = M10) ⟨M10, dRng1_ok (j := T) (by simp) (by omega), ⟨_, rfl⟩, rfl⟩ ?_ ?_
          · rintro t ht δ M10 ⟨⟨x10, rfl⟩, rfl⟩
            have ix1 := oIx_lst (i := (t : Int)) tk10'
            rw [atI_nat (told_get ht)] at ix1
            have ix2 := oIx_lst (i := (t : Int)) tk10
            rw [atI_nat (told_get ht)] at ix2
            have f1 := in_fire c f j t M10
            have f2 := in_fire c' f j t M10
            have le := qk (t + 1) j hj
            have n1 : ((N c f j (t + 1) : Nat) : Int) = (N c f j t : Nat) + (if fire c f j t = true then 1 else 0) := by
              show ((cnt (fire c f j) t + (if fire c f j t = true then 1 else 0) : Nat) : Int) = _
              split <;> rfl
            have n2 : ((N c' f j (t + 1) : Nat) : Int) = (N c' f j t : Nat) + (if fire c' f j t = true then 1 else 0) := by
              show ((cnt (fire c' f j) t + (if fire c' f j t = true then 1 else 0) : Nat) : Int) = _
              split <;> rfl
            have le' : ¬ ((N c' f j t : Nat) : Int) + (if fire c' f j t = true then 1 else 0) < (N c f j t : Nat) + (if fire c f j t = true then 1 else 0) := by
              rw [← n1, ← n2]
              omega
            simp only [n1, n2]
            generalize fire c f j t = g1 at *
            generalize fire c' f j t = g2 at *
            generalize ((N c f j t : Nat) : Int) = w1 at *
            generalize ((N c' f j t : Nat) : Int) = w2 at *
            simp [ix1, ix2, f1, f2, le']
          · rintro δ _ ⟨⟨x10, rfl⟩, rfl⟩
            rw [e_sNil, step_nx]
            exact ⟨⟨_, _, _, _, rfl⟩, rfl⟩
        · rintro δ _ ⟨⟨x9, x10, x12, x13, rfl⟩, rfl⟩
          rw [e_sNil, step_nx]
          exact ⟨⟨_, _, _, _, _, _, _, _, _, _, _, _, rfl⟩, hq10, s10⟩
    · rintro δ M2 ⟨⟨x3, x4, x5, x6, x7, x8, x9, x10, x11, x12, x13, x14, rfl⟩, hq2, s2⟩
      rw [e_sNil, step_nx]
      exact ⟨⟨_, _, _, _, _, _, _, _, _, _, _, _, _, _, rfl⟩, hq2⟩
  · rintro δ M ⟨⟨x1, x2, x3, x4, x5, x6, x7, x8, x9, x10, x11, x12, x13, x14, rfl⟩, hq⟩
    have hc : okC [(1, 1, 1), (9, 9, 3)] := by
      show _ ∧ _
      decide
    have hf : okF [(1, 1, 1), (9, 9, 3)] [1, 0] := by
      refine ⟨rfl, fun i hi => ?_⟩
      have : i = 0 ∨ i = 1 := by
        have : i < 2 := hi
        omega
      rcases this with e | e <;> subst e <;> decide
    have ps := passes_ok (okCF_of hc hf) hc (T := 12) (by omega) (fun M => need_filling_ok hc hf M) (fun M => need_circle_ok hc M) M
    have tt : ((List.range 12).map fun t => eg (giversL (runL [(1, 1, 1), (9, 9, 3)] [1, 0] t))) = ([0] :: (List.replicate 8 [] ++ [[1], [0], []])).map eg := by
      rw [← two_told, List.map_map]
      rfl
    rw [tt] at ps
    generalize hX : ([0] :: (List.replicate 8 [] ++ [[1], [0], []])).map eg = X at ps
    have hX' : X = [D.tup [.int 0]] ++ (List.replicate 8 [D.tup []]).flatten ++ [.tup [.int 1], .tup [.int 0], .tup []] := by rw [← hX]; rfl
    have pX : plnL 1 X = true := by rw [← hX]; exact plnL_egs _
    generalize hB : (List.replicate 8 [D.tup []]).flatten = B at hX'
    have lB : B.length = 8 := by rw [← hB]; rfl
    generalize hM1 : M ++ [MO.lst X] = M1 at ps
    have sX : seqOf M1 M.length = some X := by rw [← hM1]; exact seqOf_end rfl
    have eR : dBin oAdd (dBin oAdd (dLst (aCons (dTup (aCons (dC (.int 0)) aNil)) aNil)) (dBin oMul (dLst (aCons (dTup (aNil)) aNil)) (dC (.int 8)))) (dLst (aCons (dTup (aCons (dC (.int 1)) aNil)) (aCons (dTup (aCons (dC (.int 0)) aNil)) (aCons (dTup (aNil)) aNil)))) [some (.ref 0), x1, x2, x3, x4, x5, x6, x7, x8, x9, x10, x11, x12, x13, some (.tup [.tup [.int 1, .int 1, .int 1], .tup [.int 9, .int 9, .int 3]])] M1 =
        .ok (.ref (M1.length + 5)) (M1 ++ [.lst [.tup [.int 0]], .lst [.tup []], .lst B, .lst (.tup [.int 0] :: B), .lst [.tup [.int 1], .tup [.int 0], .tup []], .lst X]) := by
      have mu : oMul (.ref (M1.length + 1)) (.int 8) (M1 ++ [.lst [.tup [.int 0]], .lst [.tup []]]) = some (.ref (M1.length + 2), M1 ++ [.lst [.tup [.int 0]], .lst [.tup []], .lst B]) := by
        have e0 : oMul (.ref (M1.length + 1)) (.int 8) (M1 ++ [MO.lst [.tup [.int 0]], .lst [.tup []]]) = (match lstOf (M1 ++ [MO.lst [.tup [.int 0]], .lst [.tup []]]) (M1.length + 1) with
          | some l => if -(2 ^ 63) ≤ (8 : Int) ∧ (8 : Int) < 2 ^ 63 ∧ l.length * (8 : Int).toNat ≤ sizeLine then some (D.ref (M1 ++ [MO.lst [.tup [.int 0]], .lst [.tup []]]).length, M1 ++ [MO.lst [.tup [.int 0]], .lst [.tup []]] ++ [MO.lst (List.replicate (8 : Int).toNat l).flatten]) else none
          | none => none) := nr rfl
        rw [e0, lstOf_new]
        show (if -(2 ^ 63) ≤ (8 : Int) ∧ (8 : Int) < 2 ^ 63 ∧ 1 * (8 : Int).toNat ≤ sizeLine then some (D.ref (M1 ++ [MO.lst [.tup [.int 0]], .lst [.tup []]]).length, M1 ++ [MO.lst [.tup [.int 0]], .lst [.tup []]] ++ [MO.lst (List.replicate (8 : Int).toNat [D.tup []]).flatten]) else none) = _
        rw [if_pos (by rw [hz]; decide), show (List.replicate (8 : Int).toNat [D.tup []]).flatten = B from hB]
        simp
      have a1 : oAdd (.ref M1.length) (.ref (M1.length + 2)) (M1 ++ [.lst [.tup [.int 0]], .lst [.tup []], .lst B]) = some (.ref (M1.length + 3), M1 ++ [.lst [.tup [.int 0]], .lst [.tup []], .lst B, .lst (.tup [.int 0] :: B)]) := by
        rw [oAdd_lst (l := [.tup [.int 0]]) (m := B) (by rw [lstOf_new0]; rfl) (by rw [lstOf_new]; rfl) (by rw [lB, hz]; decide)]
        simp
      have a2 : oAdd (.ref (M1.length + 3)) (.ref (M1.length + 4)) (M1 ++ [.lst [.tup [.int 0]], .lst [.tup []], .lst B, .lst (.tup [.int 0] :: B), .lst [.tup [.int 1], .tup [.int 0], .tup []]]) = some (.ref (M1.length + 5), M1 ++ [.lst [.tup [.int 0]], .lst [.tup []], .lst B, .lst (.tup [.int 0] :: B), .lst [.tup [.int 1], .tup [.int 0], .tup []], .lst X]) := by
        rw [oAdd_lst (l := .tup [.int 0] :: B) (m := [.tup [.int 1], .tup [.int 0], .tup []]) (by rw [lstOf_new]; rfl) (by rw [lstOf_new]; rfl) (by rw [List.length_cons, lB, hz]; decide), show (D.tup [.int 0] :: B) ++ [D.tup [.int 1], .tup [.int 0], .tup []] = X from hX'.symm]
        simp
      simp [hz, mu, a1, a2]
    have eq := oEq_lst (M := M1 ++ [.lst [.tup [.int 0]], .lst [.tup []], .lst B, .lst (.tup [.int 0] :: B), .lst [.tup [.int 1], .tup [.int 0], .tup []], .lst X]) (i := M.length) (j := M1.length + 5) (a := X) (b := X) (n := 1) (m := 1) (seqOf_app _ sX) (by rw [seqOf_new]; rfl) pX pX (by decide) (by decide)
    rw [deqL_refl] at eq
    rw [e_sSeq]
    refine wp_next (s_asg (d := .tup [.tup [.int 1, .int 1, .int 1], .tup [.int 9, .int 9, .int 3]]) (M1 := M) (by simp [hz])) ?_
    simp only [List.set, e_sSeq]
    have ps' : f_passes [.tup [.tup [.int 1, .int 1, .int 1], .tup [.int 9, .int 9, .int 3]], .tup [.int 1, .int 0], .int 12] M = .ok (.ref M.length) M1 := ps
    generalize M1 ++ [MO.lst [.tup [.int 0]], .lst [.tup []], .lst B, .lst (.tup [.int 0] :: B), .lst [.tup [.int 1], .tup [.int 0], .tup []], .lst X] = M2 at eR eq
    have eP : dCall f_passes 3 (aCons (dVar 14) (aCons (dTup (aCons (dC (.int 1)) (aCons (dC (.int 0)) aNil))) (aCons (dC (.int 12)) aNil))) [some (.ref 0), x1, x2, x3, x4, x5, x6, x7, x8, x9, x10, x11, x12, x13, some (.tup [.tup [.int 1, .int 1, .int 1], .tup [.int 9, .int 9, .int 3]])] M = .ok (.ref M.length) M1 := by
      simp [hz, ps']
    refine wp_ret (d := .bl true) (M := M2) (s_ret (by rw [e_dBin, eP, bind_ok, eR, bind_ok, eq]; rfl)) ?_
    exact wp_of (gc_some [m] _ true)
end Lw
namespace Lw
noncomputable section
open PySem PySem.Spec PyProof.Rows L2 Pd
theorem chain {w : World} {K : PySem.W.Frag} {h base : Heap} {mg : Str → Option Value} (X : K.In h) (Gn : h.Ns mainGlobals mg) (c : He.SaysD fa fnl K) (hx : ex K = true) (TBs : ∀ p ∈ tf, LamX.TabB base mg (He.cT K p).1 (He.cT K p).2)
    {fd_law0 : FuncData} (F_law0 : FunD K "law" "law" (defArgs s_law) (defBody s_law) (defScope s_law) [] [] (He.ga K "law") fd_law0) : FnOk prg w K mg base (L2N.CX prg w) 23 (He.ga K "law") fd_law0 ["_law_script"] (spOf ⟨K, mg, tabsT tf K⟩ 1 f_law) := by
  have g0 : GAll (tabsT tf K) 0 prg w K mg base G0 := sf_ok X Gn c sfs fun s hs f hf => List.mem_append_left _ (List.mem_flatMap.mpr ⟨s, hs, hf⟩)
  have m_is_within : mg "is_within" = some (.ref (He.ga K "is_within")) := He.glo_ok X Gn (c.fact 20 (f := .glo "is_within") rfl)
  obtain ⟨fd_is_within, F_is_within⟩ := c.def_ 0 (d := dfn "is_within" s_is_within) rfl
  have g1 : GAll (tabsT tf K) 1 prg w K mg base G1 := g0.add (by decide) (fn_ok F_is_within sc_is_within g0 m_is_within k_is_within (fun _ _ _ _ _ _ us hl => match us, hl with | [_, _, _], _ => rfl))
  have m_is_right_person : mg "is_right_person" = some (.ref (He.ga K "is_right_person")) := He.glo_ok X Gn (c.fact 21 (f := .glo "is_right_person") rfl)
  obtain ⟨fd_is_right_person, F_is_right_person⟩ := c.def_ 1 (d := dfn "is_right_person" s_is_right_person) rfl
  have g2 : GAll (tabsT tf K) 2 prg w K mg base G2 := g1.add (by decide) (fn_ok F_is_right_person sc_is_right_person g1 m_is_right_person k_is_right_person (fun _ _ _ _ _ _ us hl => match us, hl with | [_], _ => rfl))
  have m_are_people : mg "are_people" = some (.ref (He.ga K "are_people")) := He.glo_ok X Gn (c.fact 22 (f := .glo "are_people") rfl)
  obtain ⟨fd_are_people, F_are_people⟩ := c.def_ 2 (d := dfn "are_people" s_are_people) rfl
  have g3 : GAll (tabsT tf K) 3 prg w K mg base G3 := g2.add (by decide) (fn_ok F_are_people sc_are_people g2 m_are_people k_are_people (fun _ _ _ _ _ _ us hl => match us, hl with | [_, _, _], _ => rfl))
  have m_is_right_circle : mg "is_right_circle" = some (.ref (He.ga K "is_right_circle")) := He.glo_ok X Gn (c.fact 23 (f := .glo "is_right_circle") rfl)
  obtain ⟨fd_is_right_circle, F_is_right_circle⟩ := c.def_ 3 (d := dfn "is_right_circle" s_is_right_circle) rfl
  have g4 : GAll (tabsT tf K) 4 prg w K mg base G4 := g3.add (by decide) (fn_ok F_is_right_circle sc_is_right_circle g3 m_is_right_circle k_is_right_circle (fun _ _ _ _ _ _ us hl => match us, hl with | [_], _ => rfl))
  have m_is_right_filling : mg "is_right_filling" = some (.ref (He.ga K "is_right_filling")) := He.glo_ok X Gn (c.fact 24 (f := .glo "is_right_filling") rfl)
  obtain ⟨fd_is_right_filling, F_is_right_filling⟩ := c.def_ 4 (d := dfn "is_right_filling" s_is_right_filling) rfl
  have g5 : GAll (tabsT tf K) 5 prg w K mg base G5 := g4.add (by decide) (fn_ok F_is_right_filling sc_is_right_filling g4 m_is_right_filling k_is_right_filling (fun _ _ _ _ _ _ us hl => match us, hl with | [_, _], _ => rfl))
  have m_need_circle : mg "need_circle" = some (.ref (He.ga K "need_circle")) := He.glo_ok X Gn (c.fact 25 (f := .glo "need_circle") rfl)
  obtain ⟨fd_need_circle, F_need_circle⟩ := c.def_ 5 (d := dfn "need_circle" s_need_circle) rfl
  have g6 : GAll (tabsT tf K) 6 prg w K mg base G6 := g5.add (by decide) (fn_ok F_need_circle sc_need_circle g5 m_need_circle k_need_circle (fun _ _ _ _ _ _ us hl => match us, hl with | [_], _ => rfl))
  have m_need_filling : mg "need_filling" = some (.ref (He.ga K "need_filling")) := He.glo_ok X Gn (c.fact 26 (f := .glo "need_filling") rfl)
  obtain ⟨fd_need_filling, F_need_filling⟩ := c.def_ 6 (d := dfn "need_filling" s_need_filling) rfl
  have g7 : GAll (tabsT tf K) 7 prg w K mg base G7 := g6.add (by decide) (fn_ok F_need_filling sc_need_filling g6 m_need_filling k_need_filling (fun _ _ _ _ _ _ us hl => match us, hl with | [_, _], _ => rfl))
  have m_need_number : mg "need_number" = some (.ref (He.ga K "need_number")) := He.glo_ok X Gn (c.fact 27 (f := .glo "need_number") rfl)
  obtain ⟨fd_need_number, F_need_number⟩ := c.def_ 7 (d := dfn "need_number" s_need_number) rfl
  have g8 : GAll (tabsT tf K) 8 prg w K mg base G8 := g7.add (by decide) (fn_ok F_need_number sc_need_number g7 m_need_number k_need_number (fun _ _ _ _ _ _ us hl => match us, hl with | [_, _, _], _ => rfl))
  have m_first_standing : mg "first_standing" = some (.ref (He.ga K "first_standing")) := He.glo_ok X Gn (c.fact 28 (f := .glo "first_standing") rfl)
  obtain ⟨fd_first_standing, F_first_standing⟩ := c.def_ 8 (d := dfn "first_standing" s_first_standing) rfl
  have g9 : GAll (tabsT tf K) 9 prg w K mg base G9 := g8.add (by decide) (fn_ok F_first_standing sc_first_standing g8 m_first_standing k_first_standing (fun _ _ _ _ _ _ us hl => match us, hl with | [_, _], _ => rfl))
  have m_givers_of : mg "givers_of" = some (.ref (He.ga K "givers_of")) := He.glo_ok X Gn (c.fact 29 (f := .glo "givers_of") rfl)
  obtain ⟨fd_givers_of, F_givers_of⟩ := c.def_ 9 (d := dfn "givers_of" s_givers_of) rfl
  have g10 : GAll (tabsT tf K) 10 prg w K mg base G10 := g9.add (by decide) (fn_ok F_givers_of sc_givers_of g9 m_givers_of k_givers_of (fun _ _ _ _ _ _ us hl => match us, hl with | [_], _ => rfl))
  have m_later : mg "later" = some (.ref (He.ga K "later")) := He.glo_ok X Gn (c.fact 30 (f := .glo "later") rfl)
  obtain ⟨fd_later, F_later⟩ := c.def_ 10 (d := dfn "later" s_later) rfl
  have g11 : GAll (tabsT tf K) 11 prg w K mg base G11 := g10.add (by decide) (fn_ok F_later sc_later g10 m_later k_later (fun _ _ _ _ _ _ us hl => match us, hl with | [_, _, _], _ => rfl))
  have m_stepped : mg "stepped" = some (.ref (He.ga K "stepped")) := He.glo_ok X Gn (c.fact 31 (f := .glo "stepped") rfl)
  obtain ⟨fd_stepped, F_stepped⟩ := c.def_ 11 (d := dfn "stepped" s_stepped) rfl
  have g12 : GAll (tabsT tf K) 12 prg w K mg base G12 := g11.add (by decide) (fn_ok F_stepped sc_stepped g11 m_stepped k_stepped (fun _ _ _ _ _ _ us hl => match us, hl with | [_, _], _ => rfl))
  have m_passes : mg "passes" = some (.ref (He.ga K "passes")) := He.glo_ok X Gn (c.fact 32 (f := .glo "passes") rfl)
  obtain ⟨fd_passes, F_passes⟩ := c.def_ 12 (d := dfn "passes" s_passes) rfl
  have g13 : GAll (tabsT tf K) 13 prg w K mg base G13 := g12.add (by decide) (fn_ok F_passes sc_passes g12 m_passes k_passes (fun _ _ _ _ _ _ us hl => match us, hl with | [_, _, _], _ => rfl))
  have m__law_source : mg "_law_source" = some (.ref (He.ga K "_law_source")) := He.glo_ok X Gn (c.fact 33 (f := .glo "_law_source") rfl)
  obtain ⟨fd__law_source, F__law_source⟩ := c.def_ 13 (d := dfn "_law_source" s__law_source) rfl
  have g14 : GAll (tabsT tf K) 14 prg w K mg base G14 := g13.add (by decide) (fn_ok F__law_source sc__law_source g13 m__law_source k__law_source (fun _ _ _ _ _ _ us hl => match us, hl with | [_, _], _ => rfl))
  have m__law_pick : mg "_law_pick" = some (.ref (He.ga K "_law_pick")) := He.glo_ok X Gn (c.fact 34 (f := .glo "_law_pick") rfl)
  obtain ⟨fd__law_pick, F__law_pick⟩ := c.def_ 14 (d := dfn "_law_pick" s__law_pick) rfl
  have g15 : GAll (tabsT tf K) 15 prg w K mg base G15 := g14.add (by decide) (fn_ok F__law_pick sc__law_pick g14 m__law_pick k__law_pick (fun _ _ _ _ _ _ us hl => match us, hl with | [_, _], _ => rfl))
  have m__law_chosen : mg "_law_chosen" = some (.ref (He.ga K "_law_chosen")) := He.glo_ok X Gn (c.fact 35 (f := .glo "_law_chosen") rfl)
  obtain ⟨fd__law_chosen, F__law_chosen⟩ := c.def_ 15 (d := dfn "_law_chosen" s__law_chosen) rfl
  have g16 : GAll (tabsT tf K) 16 prg w K mg base G16 := g15.add (by decide) (fn_ok F__law_chosen sc__law_chosen g15 m__law_chosen k__law_chosen (fun _ _ _ _ _ _ us hl => match us, hl with | [_, _], _ => rfl))
  have m__law_drawn_person : mg "_law_drawn_person" = some (.ref (He.ga K "_law_drawn_person")) := He.glo_ok X Gn (c.fact 36 (f := .glo "_law_drawn_person") rfl)
  obtain ⟨fd__law_drawn_person, F__law_drawn_person⟩ := c.def_ 16 (d := dfn "_law_drawn_person" s__law_drawn_person) rfl
  have g17 : GAll (tabsT tf K) 17 prg w K mg base G17 := g16.add (by decide) (fn_ok F__law_drawn_person sc__law_drawn_person g16 m__law_drawn_person k__law_drawn_person (fun _ _ _ _ _ _ us hl => match us, hl with | [_, _], _ => rfl))
  have m__law_drawn_circle : mg "_law_drawn_circle" = some (.ref (He.ga K "_law_drawn_circle")) := He.glo_ok X Gn (c.fact 37 (f := .glo "_law_drawn_circle") rfl)
  obtain ⟨fd__law_drawn_circle, F__law_drawn_circle⟩ := c.def_ 17 (d := dfn "_law_drawn_circle" s__law_drawn_circle) rfl
  have g18 : GAll (tabsT tf K) 18 prg w K mg base G18 := g17.add (by decide) (fn_ok F__law_drawn_circle sc__law_drawn_circle g17 m__law_drawn_circle k__law_drawn_circle (fun _ _ _ _ _ _ us hl => match us, hl with | [_, _, _], _ => rfl))
  have m__law_drawn_filling : mg "_law_drawn_filling" = some (.ref (He.ga K "_law_drawn_filling")) := He.glo_ok X Gn (c.fact 38 (f := .glo "_law_drawn_filling") rfl)
  obtain ⟨fd__law_drawn_filling, F__law_drawn_filling⟩ := c.def_ 18 (d := dfn "_law_drawn_filling" s__law_drawn_filling) rfl
  have g19 : GAll (tabsT tf K) 19 prg w K mg base G19 := g18.add (by decide) (fn_ok F__law_drawn_filling sc__law_drawn_filling g18 m__law_drawn_filling k__law_drawn_filling (fun _ _ _ _ _ _ us hl => match us, hl with | [_, _], _ => rfl))
  have m__law_need : mg "_law_need" = some (.ref (He.ga K "_law_need")) := He.glo_ok X Gn (c.fact 39 (f := .glo "_law_need") rfl)
  obtain ⟨fd__law_need, F__law_need⟩ := c.def_ 19 (d := dfn "_law_need" s__law_need) rfl
  have g20 : GAll (tabsT tf K) 20 prg w K mg base G20 := g19.add (by decide) (fn_ok F__law_need sc__law_need g19 m__law_need k__law_need (fun _ _ _ _ _ _ us hl => match us, hl with | [_, _, _], _ => rfl))
  have m__law_times : mg "_law_times" = some (.ref (He.ga K "_law_times")) := He.glo_ok X Gn (c.fact 40 (f := .glo "_law_times") rfl)
  obtain ⟨fd__law_times, F__law_times⟩ := c.def_ 20 (d := dfn "_law_times" s__law_times) rfl
  have g21 : GAll (tabsT tf K) 21 prg w K mg base G21 := g20.add (by decide) (fn_ok F__law_times sc__law_times g20 m__law_times k__law_times (fun _ _ _ _ _ _ us hl => match us, hl with | [_, _, _], _ => rfl))
  have m__law_quicker : mg "_law_quicker" = some (.ref (He.ga K "_law_quicker")) := He.glo_ok X Gn (c.fact 41 (f := .glo "_law_quicker") rfl)
  obtain ⟨fd__law_quicker, F__law_quicker⟩ := c.def_ 21 (d := dfn "_law_quicker" s__law_quicker) rfl
  have g22 : GAll (tabsT tf K) 22 prg w K mg base G22 := g21.add (by decide) (fn_ok F__law_quicker sc__law_quicker g21 m__law_quicker k__law_quicker (fun _ _ _ _ _ _ us hl => match us, hl with | [_, _], _ => rfl))
  have m_law : mg "law" = some (.ref (He.ga K "law")) := He.glo_ok X Gn (c.fact 42 (f := .glo "law") rfl)
  exact fn_okF F_law0 sc_law g22 k_law
abbrev R : PySem.W.OpenRow := PySem.W.OpenLaw.row PySem.Challenge.rw_handedround_k12_whole_times_as_sums_alon
abbrev hk : PySem.W.Hook := He.hookX 4 fa fnl [] tf ex
def ob (s : PySem.W.SharedT) : He.AlX := He.obsX 4 fa fnl [] tf ex (HandSHeadRun.getT s)
theorem ob_eq (s : PySem.W.SharedT) : ob s = hk.obs s.abs := He.obsX_eq (HandSHeadRun.getT_eq s)
def loose0 : List PySem.Str := ["__name__", "HandError", "InvalidCircle", "InvalidFilling", "InvalidNumber", "MOST_PEOPLE", "is_within", "is_right_person", "are_people", "is_right_circle", "is_right_filling", "need_circle", "need_filling", "need_number", "MOST_BEATS", "first_standing", "givers_of", "later", "stepped", "passes"]
def loose1 : List PySem.Str := ["_law_source", "_law_pick", "_law_chosen", "_law_drawn_person", "_law_drawn_circle", "_law_drawn_filling", "_law_need", "_law_times", "_law_quicker"]
abbrev loose : List PySem.Str := loose0 ++ loose1
theorem run (w : World) : HandSHeadRun.RunEq R (PySem.W.view R.prog [32]) hk ob 4000 loose w := by
  intro os
  kernel_rfl
end
end Lw
open PySem PySem.W PySem.Calls PyProof.Rows
theorem PySem.Challenge.cw_handedround_k12_whole_times_as_sums_alon_holds : PySem.Challenge.rw_handedround_k12_whole_times_as_sums_alon.Holds := by
  w_on; o_law
  refine HandSHeadRun.head_any (r := PySem.W.OpenLaw.row PySem.Challenge.rw_handedround_k12_whole_times_as_sums_alon) (q := PySem.W.view (PySem.W.OpenLaw.row PySem.Challenge.rw_handedround_k12_whole_times_as_sums_alon).prog [32]) (H := Lw.hk) (ob := Lw.ob) (M := 4000) (loose := Lw.loose) (d := HandSHeadRun.topDef (PySem.W.OpenLaw.row PySem.Challenge.rw_handedround_k12_whole_times_as_sums_alon).prog 32) (kwd := []) Lw.ob_eq
    (by kernel_rfl) (fun s => by kernel_rfl) Lw.run (by kernel_rfl) (by kernel_rfl) (by kernel_rfl) (by rfl) (by first | assumption | decide +kernel) (by decide +kernel) ⟨rfl, rfl, rfl, rfl, rfl, by decide +kernel⟩ ?hw ?hc
  case hw => w_witness2
  case hc =>
    refine Pd.head_law (l := PySem.Challenge.rw_handedround_k12_whole_times_as_sums_alon) (k := 23) (x := "_law_script") (φ := Lw.f_law) (ex := Lw.ex) (by kernel_rfl) (by kernel_rfl) rfl ⟨rfl, by decide, by decide⟩ (fun K h => Lw.ex_lists h) (fun w K h mg f X Gn hm c hx => ?all) Lw.final
    case all =>
      obtain ⟨fd, F⟩ := c.def_ 22 (d := Lw.dfn "law" Lw.s_law) rfl
      have e := hm.symm.trans (He.glo_ok X Gn (c.fact 42 (f := .glo "law") rfl))
      cases e
      exact ⟨fd, fun s v => L2.FunD.bindsA (ps := ["_law_script"]) F (fun _ _ _ _ _ _ us hl => match us, hl with | [_], _ => rfl) s [v] rfl, fun base TBs => Lw.chain X Gn c hx TBs F⟩
